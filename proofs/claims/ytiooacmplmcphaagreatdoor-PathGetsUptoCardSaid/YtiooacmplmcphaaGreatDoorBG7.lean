/- Texts that stand behind one another, laid into one: what this claim needs of them. -/
import Derived.Test.YtiooacmplmcphaaGreatDoorBG0
import Derived.Test.YtiooacmplmcphaaGreatDoorBG5
import Derived.Test.YtiooacmplmcphaaGreatDoorBG6
import Derived.Outline
import Derived.Test.YtiooacmplmcphaaGreatDoorBG1
import Derived.Test.YtiooacmplmcphaaGreatDoorBG3
import Derived.Test.YtiooacmplmcphaaGreatDoorBG4
namespace Go.Proofs.YtiooacmplmcphaaGreatDoor.PX
open RowKit YtiooacmplmcphaaGreatDoorW.PrintWords YtiooacmplmcphaaGreatDoorW.PrintLast YtiooacmplmcphaaGreatDoorW.PrintMore YtiooacmplmcphaaGreatDoor
attribute [local go_sem] max2_int min2_int max_two min_two max_three min_three max_four min_four   -- for this text's walks alone
set_option linter.unusedVariables false
set_option linter.unusedSimpArgs false
mutual
def grommetref16_Format.l0 : Nat → List (S58) → Int → Option (ByteArray × Int)
  | 0, _, _ => none
  | k + 1, x0, x4 => if x4 < (x0.length : Int) then (if 0 ≤ x4 then (if (rd_T58 x0 x4).f2 = true then (if ((rd_T58 x0 x4).f1) < 0 then (some ((⟨#[]⟩ : ByteArray), 5)) else (if ((rd_T58 x0 x4).f1) > 999999 then (some ((⟨#[]⟩ : ByteArray), 5)) else (if ((rd_T58 x0 x4).f2 = true) then (grommetref16_Format.l0 k x0 (wrap64 (x4 + 1))) else (if (((rd_T58 x0 x4).f0).size : Int) > 256 then (some ((⟨#[]⟩ : ByteArray), 5)) else (grommetref16_Format.l0 k x0 (wrap64 (x4 + 1))))))) else (if ((rd_T58 x0 x4).f2 = true) then (grommetref16_Format.l0 k x0 (wrap64 (x4 + 1))) else (if (((rd_T58 x0 x4).f0).size : Int) > 256 then (some ((⟨#[]⟩ : ByteArray), 5)) else (grommetref16_Format.l0 k x0 (wrap64 (x4 + 1)))))) else (none)) else (grommetref16_Format.l1 k x0 (⟨#[]⟩ : ByteArray) 0)
def grommetref16_Format.l1 : Nat → List (S58) → ByteArray → Int → Option (ByteArray × Int)
  | 0, _, _, _ => none
  | k + 1, x0, x5, x6 => if x6 < (x0.length : Int) then (if 0 ≤ x6 then (if (rd_T58 x0 x6).f2 = true then ((grommetref06_Text.f k ((rd_T58 x0 x6).f1)).bind fun t110 => (if 1 + t110.size ≤ 9223372036854775807 then (if ((⟨#[91]⟩ : ByteArray) ++ t110).size + 1 ≤ 9223372036854775807 then (if x5.size + (((⟨#[91]⟩ : ByteArray) ++ t110) ++ (⟨#[93]⟩ : ByteArray)).size ≤ 9223372036854775807 then (grommetref16_Format.l1 k x0 (x5 ++ (((⟨#[91]⟩ : ByteArray) ++ t110) ++ (⟨#[93]⟩ : ByteArray))) (wrap64 (x6 + 1))) else (none)) else (none)) else (none))) else ((grommetref16_bare.f k ((rd_T58 x0 x6).f0)).bind fun t112 => (if t112 = true then (if x6 > 0 then (if x5.size + 1 ≤ 9223372036854775807 then (if (x5 ++ (⟨#[46]⟩ : ByteArray)).size + ((rd_T58 x0 x6).f0).size ≤ 9223372036854775807 then (grommetref16_Format.l1 k x0 ((x5 ++ (⟨#[46]⟩ : ByteArray)) ++ ((rd_T58 x0 x6).f0)) (wrap64 (x6 + 1))) else (none)) else (none)) else (if x5.size + ((rd_T58 x0 x6).f0).size ≤ 9223372036854775807 then (grommetref16_Format.l1 k x0 (x5 ++ ((rd_T58 x0 x6).f0)) (wrap64 (x6 + 1))) else (none))) else ((grommetref07_Double.f k ((rd_T58 x0 x6).f0)).bind fun bt113 => (if bt113.2 = 0 then (if x6 > 0 then (if x5.size + 1 ≤ 9223372036854775807 then (if (x5 ++ (⟨#[46]⟩ : ByteArray)).size + bt113.1.size ≤ 9223372036854775807 then (grommetref16_Format.l1 k x0 ((x5 ++ (⟨#[46]⟩ : ByteArray)) ++ bt113.1) (wrap64 (x6 + 1))) else (none)) else (none)) else (if x5.size + bt113.1.size ≤ 9223372036854775807 then (grommetref16_Format.l1 k x0 (x5 ++ bt113.1) (wrap64 (x6 + 1))) else (none))) else (some ((⟨#[]⟩ : ByteArray), 8))))))) else (none)) else (some (x5, 0))
end
def grommetref16_Format.f (k : Nat) (l0 : List (S58)) : Option (ByteArray × Int) := if (l0.length : Int) > 64 then (some ((⟨#[]⟩ : ByteArray), 5)) else (grommetref16_Format.l0 k l0 0)
theorem qpb0_ {P : Prop} (h_ : P := by first | (with_reducible assumption) | assumption) : P := h_
theorem qpb1_ {P : Prop} (h_ : P := by first | ((repeat (first | (with_reducible first | exact HB.out | apply below_alloc | apply pw_below_drewN | apply below_drew1 | (refine Glob.below_set ?_ (by assumption) _ _ _)) | exact HB.out)); done) | (refine Drawn0.below ?_; repeat (first | exact Drawn0.refl _ | assumption | apply Drawn0.step))) : P := h_
theorem qpb2_ {P : Prop} (h_ : P := by repeat (first | (with_reducible first | exact HB.out | apply below_alloc | apply pw_below_drewN | apply below_drew1) | exact HB.out)) : P := h_
theorem qpb3_ {P : Prop} (h_ : P := by (try simp only [List.map_toArray, List.map_cons, List.map_nil]); first | done | rfl | (simp only [List.length_drop, List.length_take]; rfl)) : P := h_
theorem qpb4_ {P : Prop} (h_ : P := by first | rfl | (simp; done) | (simp [*]; done)) : P := h_
theorem qpb5_ {P : Prop} (h_ : P := by first | exact H' | (rw [← Nbq15.out]; exact H') | (rw [← Nbq5.out]; exact H')) : P := h_
theorem qpb6_ {P : Prop} (h_ : P := by first | rfl | (simp [errW_none, errW_some] <;> rfl) | (simp [*, errW_none, errW_some] <;> rfl)) : P := h_
theorem qpb7_ {P : Prop} (h_ : P := by have := HK1.out; have := HK2.out; omega) : P := h_
set_option maxHeartbeats 8000000 in
set_option maxRecDepth 100000 in
theorem grommetref16_Format.calls (k : Nat) (A0 : Option Addr) (c0 : Nat) (l0 : List (S58)) (r1 : ByteArray) (r2 : Int) (w : World) (hr0 : Kd.C k58 w A0 l0.length l0) (hc0 : l0.length ≤ c0) (hG : Glob.G w) (h : grommetref16_Format.f k l0 = some (r1, r2)) :
  Calls Tryz.prog 49 #[.slice A0 l0.length c0] w fun e w' => e = .returned (.tuple #[.string r1, .int .i64 r2]) ∧ Below w.heap.size w w' := by
 have HR0 := Aside0.mk hr0
 have HC0 := Aside0.mk hc0
 clear hr0 hc0
 have HB := Aside0.mk (Below.refl w.heap.size w)
 have H : (if (l0.length : Int) > 64 then (some ((⟨#[]⟩ : ByteArray), 5)) else (grommetref16_Format.l0 k l0 0)) = some (r1, r2) := h
 clear h
 by_cases c2 : (l0.length : Int) > 64
 ·
  rw [if_pos c2] at H
  have c2b0 : decide (64 < (l0.length : Int)) = true := decide_eq_true c2
  have c2b1 : decide (64 < l0.length) = true := decide_eq_true (by omega)
  clear c2
  simp only [Option.some.injEq, Prod.mk.injEq] at H
  obtain ⟨rfl, rfl⟩ := H
  go_enter Tryz.func49, Tryz.ntmps49
  go_wp2
  go_ret2
  exact ⟨qpb6_, qpb2_⟩
 rw [if_neg c2] at H
 have c2b0 : decide (64 < (l0.length : Int)) = false := decide_eq_false c2
 have c2b1 : decide (64 < l0.length) = false := decide_eq_false (by omega)
 clear c2
 have H' := Aside0.mk H
 clear H
 go_enter Tryz.func49, Tryz.ntmps49
 go_wp2
 go_loopg [4] k (fun kq v4 w' => ∃ (x4_1 : Int), v4 = .int .i64 x4_1 ∧ Aside0 (grommetref16_Format.l0 kq l0 x4_1 = some (r1, r2)) ∧ Aside0 (kq ≤ k) ∧ Aside0 (Below w.heap.size w w'))
 case atStart => exact ⟨(0), (qpb4_), H', ⟨Nat.le_refl _⟩, ⟨qpb2_⟩⟩
 case round =>
  clear H'
  try clear c2
  try clear c2b0
  try clear c2b1
  try clear p2
  obtain ⟨x4_1, rfl, HA, HK1, HB⟩ := hrel
  cases gk with
  | zero => exact absurd HA.out (by simp [grommetref16_Format.l0])
  | succ k1 =>
   have H := HA.out
   clear HA
   simp only [grommetref16_Format.l0] at H
   by_cases c3 : x4_1 < (l0.length : Int)
   ·
    rw [if_pos c3] at H
    have c3b0 : decide (x4_1 < (l0.length : Int)) = true := decide_eq_true c3
    clear c3
    by_cases c4 : 0 ≤ x4_1
    rotate_left
    ·
     rw [if_neg c4] at H
     exact absurd H (by simp)
    rw [if_pos c4] at H
    have c4b0 : decide (0 ≤ x4_1) = true := decide_eq_true c4
    clear c4
    obtain ⟨bq5, hbq5⟩ : ∃ b_ : Bool, b_ = ((rd_T58 l0 x4_1).f2) := ⟨_, rfl⟩
    replace H : (if bq5 = true then (if ((rd_T58 l0 x4_1).f1) < 0 then (some ((⟨#[]⟩ : ByteArray), 5)) else (if ((rd_T58 l0 x4_1).f1) > 999999 then (some ((⟨#[]⟩ : ByteArray), 5)) else (if (bq5 = true) then (grommetref16_Format.l0 k1 l0 (wrap64 (x4_1 + 1))) else (if (((rd_T58 l0 x4_1).f0).size : Int) > 256 then (some ((⟨#[]⟩ : ByteArray), 5)) else (grommetref16_Format.l0 k1 l0 (wrap64 (x4_1 + 1))))))) else (if (bq5 = true) then (grommetref16_Format.l0 k1 l0 (wrap64 (x4_1 + 1))) else (if (((rd_T58 l0 x4_1).f0).size : Int) > 256 then (some ((⟨#[]⟩ : ByteArray), 5)) else (grommetref16_Format.l0 k1 l0 (wrap64 (x4_1 + 1)))))) = some (r1, r2) := by rw [← hbq5] at H; exact H
    have Nbq5 := Aside0.mk hbq5
    clear hbq5
    by_cases c6 : bq5 = true
    rotate_left
    ·
     replace c6 := Bool.eq_false_iff.mpr c6
     subst c6
     have H1 : (if (false = true) then (grommetref16_Format.l0 k1 l0 (wrap64 (x4_1 + 1))) else (if (((rd_T58 l0 x4_1).f0).size : Int) > 256 then (some ((⟨#[]⟩ : ByteArray), 5)) else (grommetref16_Format.l0 k1 l0 (wrap64 (x4_1 + 1))))) = some (r1, r2) := by rw [if_neg (show ¬ (false = true) by decide)] at H; exact H
     clear H
     have H := H1
     clear H1
     by_cases c11 : (false = true)
     · exact absurd c11 (by decide)
     clear c11
     have H1 : (if (((rd_T58 l0 x4_1).f0).size : Int) > 256 then (some ((⟨#[]⟩ : ByteArray), 5)) else (grommetref16_Format.l0 k1 l0 (wrap64 (x4_1 + 1)))) = some (r1, r2) := by rw [if_neg (show ¬ (false = true) by decide)] at H; exact H
     clear H
     have H := H1
     clear H1
     by_cases c12 : (((rd_T58 l0 x4_1).f0).size : Int) > 256
     ·
      rw [if_pos c12] at H
      have c12b0 : decide (256 < (((rd_T58 l0 x4_1).f0).size : Int)) = true := decide_eq_true c12
      have c12b1 : decide (256 < ((rd_T58 l0 x4_1).f0).size) = true := decide_eq_true (by omega)
      clear c12
      simp only [Option.some.injEq, Prod.mk.injEq] at H
      obtain ⟨rfl, rfl⟩ := H
      have p101 : 0 ≤ (x4_1 : Int) := of_decide_eq_true (qpb0_)
      have q101 : x4_1 < (l0.length : Int) := of_decide_eq_true (qpb0_)
      obtain ⟨ad101, e101, hx101_0, hx101_1, hx101_2⟩ := at_T58 HR0.out x4_1 p101 q101
      (try rw [← Nbq5.out] at hx101_2)
      (try rw [← Nbq5.out] at hw101_2)
      cases e101
      replace hx101_0 := (HB.out.cell (World.block_lt_of_cell? w _ hx101_0)).trans hx101_0
      replace hx101_1 := (HB.out.cell (World.block_lt_of_cell? w _ hx101_1)).trans hx101_1
      replace hx101_2 := (HB.out.cell (World.block_lt_of_cell? w _ hx101_2)).trans hx101_2
      replace p101 := eq_true p101
      replace q101 := eq_true q101
      have p106 : 0 ≤ (x4_1 : Int) := of_decide_eq_true (qpb0_)
      have q106 : x4_1 < (l0.length : Int) := of_decide_eq_true (qpb0_)
      obtain ⟨ad106, e106, hx106_0, hx106_1, hx106_2⟩ := at_T58 HR0.out x4_1 p106 q106
      (try rw [← Nbq5.out] at hx106_2)
      (try rw [← Nbq5.out] at hw106_2)
      obtain rfl : ad101 = ad106 := (by injection e106)
      replace hx106_0 := (HB.out.cell (World.block_lt_of_cell? w _ hx106_0)).trans hx106_0
      replace hx106_1 := (HB.out.cell (World.block_lt_of_cell? w _ hx106_1)).trans hx106_1
      replace hx106_2 := (HB.out.cell (World.block_lt_of_cell? w _ hx106_2)).trans hx106_2
      replace p106 := eq_true p106
      replace q106 := eq_true q106
      have p107 : 0 ≤ (x4_1 : Int) := of_decide_eq_true (qpb0_)
      have q107 : x4_1 < (l0.length : Int) := of_decide_eq_true (qpb0_)
      obtain ⟨ad107, e107, hx107_0, hx107_1, hx107_2⟩ := at_T58 HR0.out x4_1 p107 q107
      (try rw [← Nbq5.out] at hx107_2)
      (try rw [← Nbq5.out] at hw107_2)
      obtain rfl : ad101 = ad107 := (by injection e107)
      replace hx107_0 := (HB.out.cell (World.block_lt_of_cell? w _ hx107_0)).trans hx107_0
      replace hx107_1 := (HB.out.cell (World.block_lt_of_cell? w _ hx107_1)).trans hx107_1
      replace hx107_2 := (HB.out.cell (World.block_lt_of_cell? w _ hx107_2)).trans hx107_2
      replace p107 := eq_true p107
      replace q107 := eq_true q107
      go_wp2
      go_ret2
      exact ⟨qpb6_, qpb2_⟩
     rw [if_neg c12] at H
     have c12b0 : decide (256 < (((rd_T58 l0 x4_1).f0).size : Int)) = false := decide_eq_false c12
     have c12b1 : decide (256 < ((rd_T58 l0 x4_1).f0).size) = false := decide_eq_false (by omega)
     clear c12
     have H' := Aside0.mk H
     clear H
     have p101 : 0 ≤ (x4_1 : Int) := of_decide_eq_true (qpb0_)
     have q101 : x4_1 < (l0.length : Int) := of_decide_eq_true (qpb0_)
     obtain ⟨ad101, e101, hx101_0, hx101_1, hx101_2⟩ := at_T58 HR0.out x4_1 p101 q101
     (try rw [← Nbq5.out] at hx101_2)
     (try rw [← Nbq5.out] at hw101_2)
     cases e101
     replace hx101_0 := (HB.out.cell (World.block_lt_of_cell? w _ hx101_0)).trans hx101_0
     replace hx101_1 := (HB.out.cell (World.block_lt_of_cell? w _ hx101_1)).trans hx101_1
     replace hx101_2 := (HB.out.cell (World.block_lt_of_cell? w _ hx101_2)).trans hx101_2
     replace p101 := eq_true p101
     replace q101 := eq_true q101
     have p106 : 0 ≤ (x4_1 : Int) := of_decide_eq_true (qpb0_)
     have q106 : x4_1 < (l0.length : Int) := of_decide_eq_true (qpb0_)
     obtain ⟨ad106, e106, hx106_0, hx106_1, hx106_2⟩ := at_T58 HR0.out x4_1 p106 q106
     (try rw [← Nbq5.out] at hx106_2)
     (try rw [← Nbq5.out] at hw106_2)
     obtain rfl : ad101 = ad106 := (by injection e106)
     replace hx106_0 := (HB.out.cell (World.block_lt_of_cell? w _ hx106_0)).trans hx106_0
     replace hx106_1 := (HB.out.cell (World.block_lt_of_cell? w _ hx106_1)).trans hx106_1
     replace hx106_2 := (HB.out.cell (World.block_lt_of_cell? w _ hx106_2)).trans hx106_2
     replace p106 := eq_true p106
     replace q106 := eq_true q106
     have p107 : 0 ≤ (x4_1 : Int) := of_decide_eq_true (qpb0_)
     have q107 : x4_1 < (l0.length : Int) := of_decide_eq_true (qpb0_)
     obtain ⟨ad107, e107, hx107_0, hx107_1, hx107_2⟩ := at_T58 HR0.out x4_1 p107 q107
     (try rw [← Nbq5.out] at hx107_2)
     (try rw [← Nbq5.out] at hw107_2)
     obtain rfl : ad101 = ad107 := (by injection e107)
     replace hx107_0 := (HB.out.cell (World.block_lt_of_cell? w _ hx107_0)).trans hx107_0
     replace hx107_1 := (HB.out.cell (World.block_lt_of_cell? w _ hx107_1)).trans hx107_1
     replace hx107_2 := (HB.out.cell (World.block_lt_of_cell? w _ hx107_2)).trans hx107_2
     replace p107 := eq_true p107
     replace q107 := eq_true q107
     go_wp2
     go_roundg k1
     case measure => have := HK1.out; omega
     case rel => exact ⟨(wrap64 (x4_1 + 1)), (qpb4_), (qpb5_), ⟨by have := HK1.out; omega⟩, ⟨qpb2_⟩⟩
    subst c6
    have H1 : (if ((rd_T58 l0 x4_1).f1) < 0 then (some ((⟨#[]⟩ : ByteArray), 5)) else (if ((rd_T58 l0 x4_1).f1) > 999999 then (some ((⟨#[]⟩ : ByteArray), 5)) else (if (true = true) then (grommetref16_Format.l0 k1 l0 (wrap64 (x4_1 + 1))) else (if (((rd_T58 l0 x4_1).f0).size : Int) > 256 then (some ((⟨#[]⟩ : ByteArray), 5)) else (grommetref16_Format.l0 k1 l0 (wrap64 (x4_1 + 1))))))) = some (r1, r2) := by rw [if_pos rfl] at H; exact H
    clear H
    have H := H1
    clear H1
    by_cases c7 : ((rd_T58 l0 x4_1).f1) < 0
    ·
     rw [if_pos c7] at H
     have c7b0 : decide (((rd_T58 l0 x4_1).f1) < 0) = true := decide_eq_true c7
     clear c7
     simp only [Option.some.injEq, Prod.mk.injEq] at H
     obtain ⟨rfl, rfl⟩ := H
     have p101 : 0 ≤ (x4_1 : Int) := of_decide_eq_true (qpb0_)
     have q101 : x4_1 < (l0.length : Int) := of_decide_eq_true (qpb0_)
     obtain ⟨ad101, e101, hx101_0, hx101_1, hx101_2⟩ := at_T58 HR0.out x4_1 p101 q101
     (try rw [← Nbq5.out] at hx101_2)
     (try rw [← Nbq5.out] at hw101_2)
     cases e101
     replace hx101_0 := (HB.out.cell (World.block_lt_of_cell? w _ hx101_0)).trans hx101_0
     replace hx101_1 := (HB.out.cell (World.block_lt_of_cell? w _ hx101_1)).trans hx101_1
     replace hx101_2 := (HB.out.cell (World.block_lt_of_cell? w _ hx101_2)).trans hx101_2
     replace p101 := eq_true p101
     replace q101 := eq_true q101
     have p102 : 0 ≤ (x4_1 : Int) := of_decide_eq_true (qpb0_)
     have q102 : x4_1 < (l0.length : Int) := of_decide_eq_true (qpb0_)
     obtain ⟨ad102, e102, hx102_0, hx102_1, hx102_2⟩ := at_T58 HR0.out x4_1 p102 q102
     (try rw [← Nbq5.out] at hx102_2)
     (try rw [← Nbq5.out] at hw102_2)
     obtain rfl : ad101 = ad102 := (by injection e102)
     replace hx102_0 := (HB.out.cell (World.block_lt_of_cell? w _ hx102_0)).trans hx102_0
     replace hx102_1 := (HB.out.cell (World.block_lt_of_cell? w _ hx102_1)).trans hx102_1
     replace hx102_2 := (HB.out.cell (World.block_lt_of_cell? w _ hx102_2)).trans hx102_2
     replace p102 := eq_true p102
     replace q102 := eq_true q102
     go_wp2
     go_ret2
     exact ⟨qpb6_, qpb2_⟩
    rw [if_neg c7] at H
    have c7b0 : decide (((rd_T58 l0 x4_1).f1) < 0) = false := decide_eq_false c7
    clear c7
    by_cases c8 : ((rd_T58 l0 x4_1).f1) > 999999
    ·
     rw [if_pos c8] at H
     have c8b0 : decide (999999 < ((rd_T58 l0 x4_1).f1)) = true := decide_eq_true c8
     clear c8
     simp only [Option.some.injEq, Prod.mk.injEq] at H
     obtain ⟨rfl, rfl⟩ := H
     have p101 : 0 ≤ (x4_1 : Int) := of_decide_eq_true (qpb0_)
     have q101 : x4_1 < (l0.length : Int) := of_decide_eq_true (qpb0_)
     obtain ⟨ad101, e101, hx101_0, hx101_1, hx101_2⟩ := at_T58 HR0.out x4_1 p101 q101
     (try rw [← Nbq5.out] at hx101_2)
     (try rw [← Nbq5.out] at hw101_2)
     cases e101
     replace hx101_0 := (HB.out.cell (World.block_lt_of_cell? w _ hx101_0)).trans hx101_0
     replace hx101_1 := (HB.out.cell (World.block_lt_of_cell? w _ hx101_1)).trans hx101_1
     replace hx101_2 := (HB.out.cell (World.block_lt_of_cell? w _ hx101_2)).trans hx101_2
     replace p101 := eq_true p101
     replace q101 := eq_true q101
     have p102 : 0 ≤ (x4_1 : Int) := of_decide_eq_true (qpb0_)
     have q102 : x4_1 < (l0.length : Int) := of_decide_eq_true (qpb0_)
     obtain ⟨ad102, e102, hx102_0, hx102_1, hx102_2⟩ := at_T58 HR0.out x4_1 p102 q102
     (try rw [← Nbq5.out] at hx102_2)
     (try rw [← Nbq5.out] at hw102_2)
     obtain rfl : ad101 = ad102 := (by injection e102)
     replace hx102_0 := (HB.out.cell (World.block_lt_of_cell? w _ hx102_0)).trans hx102_0
     replace hx102_1 := (HB.out.cell (World.block_lt_of_cell? w _ hx102_1)).trans hx102_1
     replace hx102_2 := (HB.out.cell (World.block_lt_of_cell? w _ hx102_2)).trans hx102_2
     replace p102 := eq_true p102
     replace q102 := eq_true q102
     have p103 : 0 ≤ (x4_1 : Int) := of_decide_eq_true (qpb0_)
     have q103 : x4_1 < (l0.length : Int) := of_decide_eq_true (qpb0_)
     obtain ⟨ad103, e103, hx103_0, hx103_1, hx103_2⟩ := at_T58 HR0.out x4_1 p103 q103
     (try rw [← Nbq5.out] at hx103_2)
     (try rw [← Nbq5.out] at hw103_2)
     obtain rfl : ad101 = ad103 := (by injection e103)
     replace hx103_0 := (HB.out.cell (World.block_lt_of_cell? w _ hx103_0)).trans hx103_0
     replace hx103_1 := (HB.out.cell (World.block_lt_of_cell? w _ hx103_1)).trans hx103_1
     replace hx103_2 := (HB.out.cell (World.block_lt_of_cell? w _ hx103_2)).trans hx103_2
     replace p103 := eq_true p103
     replace q103 := eq_true q103
     go_wp2
     go_ret2
     exact ⟨qpb6_, qpb2_⟩
    rw [if_neg c8] at H
    have c8b0 : decide (999999 < ((rd_T58 l0 x4_1).f1)) = false := decide_eq_false c8
    clear c8
    by_cases c9 : (true = true)
    rotate_left
    · exact absurd rfl c9
    clear c9
    have H1 : (grommetref16_Format.l0 k1 l0 (wrap64 (x4_1 + 1))) = some (r1, r2) := by rw [if_pos rfl] at H; exact H
    clear H
    have H := H1
    clear H1
    have H' := Aside0.mk H
    clear H
    have p101 : 0 ≤ (x4_1 : Int) := of_decide_eq_true (qpb0_)
    have q101 : x4_1 < (l0.length : Int) := of_decide_eq_true (qpb0_)
    obtain ⟨ad101, e101, hx101_0, hx101_1, hx101_2⟩ := at_T58 HR0.out x4_1 p101 q101
    (try rw [← Nbq5.out] at hx101_2)
    (try rw [← Nbq5.out] at hw101_2)
    cases e101
    replace hx101_0 := (HB.out.cell (World.block_lt_of_cell? w _ hx101_0)).trans hx101_0
    replace hx101_1 := (HB.out.cell (World.block_lt_of_cell? w _ hx101_1)).trans hx101_1
    replace hx101_2 := (HB.out.cell (World.block_lt_of_cell? w _ hx101_2)).trans hx101_2
    replace p101 := eq_true p101
    replace q101 := eq_true q101
    have p102 : 0 ≤ (x4_1 : Int) := of_decide_eq_true (qpb0_)
    have q102 : x4_1 < (l0.length : Int) := of_decide_eq_true (qpb0_)
    obtain ⟨ad102, e102, hx102_0, hx102_1, hx102_2⟩ := at_T58 HR0.out x4_1 p102 q102
    (try rw [← Nbq5.out] at hx102_2)
    (try rw [← Nbq5.out] at hw102_2)
    obtain rfl : ad101 = ad102 := (by injection e102)
    replace hx102_0 := (HB.out.cell (World.block_lt_of_cell? w _ hx102_0)).trans hx102_0
    replace hx102_1 := (HB.out.cell (World.block_lt_of_cell? w _ hx102_1)).trans hx102_1
    replace hx102_2 := (HB.out.cell (World.block_lt_of_cell? w _ hx102_2)).trans hx102_2
    replace p102 := eq_true p102
    replace q102 := eq_true q102
    have p103 : 0 ≤ (x4_1 : Int) := of_decide_eq_true (qpb0_)
    have q103 : x4_1 < (l0.length : Int) := of_decide_eq_true (qpb0_)
    obtain ⟨ad103, e103, hx103_0, hx103_1, hx103_2⟩ := at_T58 HR0.out x4_1 p103 q103
    (try rw [← Nbq5.out] at hx103_2)
    (try rw [← Nbq5.out] at hw103_2)
    obtain rfl : ad101 = ad103 := (by injection e103)
    replace hx103_0 := (HB.out.cell (World.block_lt_of_cell? w _ hx103_0)).trans hx103_0
    replace hx103_1 := (HB.out.cell (World.block_lt_of_cell? w _ hx103_1)).trans hx103_1
    replace hx103_2 := (HB.out.cell (World.block_lt_of_cell? w _ hx103_2)).trans hx103_2
    replace p103 := eq_true p103
    replace q103 := eq_true q103
    have p104 : 0 ≤ (x4_1 : Int) := of_decide_eq_true (qpb0_)
    have q104 : x4_1 < (l0.length : Int) := of_decide_eq_true (qpb0_)
    obtain ⟨ad104, e104, hx104_0, hx104_1, hx104_2⟩ := at_T58 HR0.out x4_1 p104 q104
    (try rw [← Nbq5.out] at hx104_2)
    (try rw [← Nbq5.out] at hw104_2)
    obtain rfl : ad101 = ad104 := (by injection e104)
    replace hx104_0 := (HB.out.cell (World.block_lt_of_cell? w _ hx104_0)).trans hx104_0
    replace hx104_1 := (HB.out.cell (World.block_lt_of_cell? w _ hx104_1)).trans hx104_1
    replace hx104_2 := (HB.out.cell (World.block_lt_of_cell? w _ hx104_2)).trans hx104_2
    replace p104 := eq_true p104
    replace q104 := eq_true q104
    go_wp2
    go_roundg k1
    case measure => have := HK1.out; omega
    case rel => exact ⟨(wrap64 (x4_1 + 1)), (qpb4_), (qpb5_), ⟨by have := HK1.out; omega⟩, ⟨qpb2_⟩⟩
   rw [if_neg c3] at H
   have c3b0 : decide (x4_1 < (l0.length : Int)) = false := decide_eq_false c3
   clear c3
   have H' := Aside0.mk H
   clear H
   go_wp2
   go_loopg [5, 6] k1 (fun kq v5 v6 w' => ∃ (x5_2 : ByteArray) (x6_2 : Int), v5 = .string x5_2 ∧ v6 = .int .i64 x6_2 ∧ Aside0 (grommetref16_Format.l1 kq l0 x5_2 x6_2 = some (r1, r2)) ∧ Aside0 (kq ≤ k1) ∧ Aside0 (Below w.heap.size w w'))
   case atStart => exact ⟨((⟨#[]⟩ : ByteArray)), (0), (qpb4_), (qpb4_), H', ⟨Nat.le_refl _⟩, ⟨qpb2_⟩⟩
   case round =>
    clear H'
    try clear c1
    try clear p1
    try clear q1
    try clear hx1
    try clear c2
    try clear c2b0
    try clear c2b1
    try clear p2
    try clear c3
    try clear c3b0
    try clear c4
    try clear c4b0
    try clear q5
    try clear c6
    try clear p6
    try clear c7
    try clear c7b0
    try clear c8
    try clear c8b0
    try clear c9
    try clear c10
    try clear c10b0
    try clear c10b1
    try clear p10
    try clear q10
    try clear hx10
    try clear c11
    try clear c12
    try clear c12b0
    try clear c12b1
    try clear hx101_0
    try clear hx101_1
    try clear hx101_2
    try clear hx102_0
    try clear hx102_1
    try clear hx102_2
    try clear hx103_0
    try clear hx103_1
    try clear hx103_2
    try clear hx104_0
    try clear hx104_1
    try clear hx104_2
    try clear hx105_0
    try clear hx105_1
    try clear hx105_2
    try clear hx106_0
    try clear hx106_1
    try clear hx106_2
    try clear hx107_0
    try clear hx107_1
    try clear hx107_2
    try clear p101
    try clear p102
    try clear p103
    try clear p104
    try clear p105
    try clear p106
    try clear p107
    try clear p2
    try clear q101
    try clear q102
    try clear q103
    try clear q104
    try clear q105
    try clear q106
    try clear q107
    obtain ⟨x5_2, x6_2, rfl, rfl, HA, HK2, HB⟩ := hrel
    cases gk with
    | zero => exact absurd HA.out (by simp [grommetref16_Format.l1])
    | succ k2 =>
     have H := HA.out
     clear HA
     simp only [grommetref16_Format.l1] at H
     by_cases c13 : x6_2 < (l0.length : Int)
     rotate_left
     ·
      rw [if_neg c13] at H
      have c13b0 : decide (x6_2 < (l0.length : Int)) = false := decide_eq_false c13
      clear c13
      simp only [Option.some.injEq, Prod.mk.injEq] at H
      obtain ⟨rfl, rfl⟩ := H
      go_wp2
      go_ret2
      exact ⟨qpb6_, qpb2_⟩
     rw [if_pos c13] at H
     have c13b0 : decide (x6_2 < (l0.length : Int)) = true := decide_eq_true c13
     clear c13
     by_cases c14 : 0 ≤ x6_2
     rotate_left
     ·
      rw [if_neg c14] at H
      exact absurd H (by simp)
     rw [if_pos c14] at H
     have c14b0 : decide (0 ≤ x6_2) = true := decide_eq_true c14
     clear c14
     obtain ⟨bq15, hbq15⟩ : ∃ b_ : Bool, b_ = ((rd_T58 l0 x6_2).f2) := ⟨_, rfl⟩
     replace H : (if bq15 = true then ((grommetref06_Text.f k2 ((rd_T58 l0 x6_2).f1)).bind fun t110 => (if 1 + t110.size ≤ 9223372036854775807 then (if ((⟨#[91]⟩ : ByteArray) ++ t110).size + 1 ≤ 9223372036854775807 then (if x5_2.size + (((⟨#[91]⟩ : ByteArray) ++ t110) ++ (⟨#[93]⟩ : ByteArray)).size ≤ 9223372036854775807 then (grommetref16_Format.l1 k2 l0 (x5_2 ++ (((⟨#[91]⟩ : ByteArray) ++ t110) ++ (⟨#[93]⟩ : ByteArray))) (wrap64 (x6_2 + 1))) else (none)) else (none)) else (none))) else ((grommetref16_bare.f k2 ((rd_T58 l0 x6_2).f0)).bind fun t112 => (if t112 = true then (if x6_2 > 0 then (if x5_2.size + 1 ≤ 9223372036854775807 then (if (x5_2 ++ (⟨#[46]⟩ : ByteArray)).size + ((rd_T58 l0 x6_2).f0).size ≤ 9223372036854775807 then (grommetref16_Format.l1 k2 l0 ((x5_2 ++ (⟨#[46]⟩ : ByteArray)) ++ ((rd_T58 l0 x6_2).f0)) (wrap64 (x6_2 + 1))) else (none)) else (none)) else (if x5_2.size + ((rd_T58 l0 x6_2).f0).size ≤ 9223372036854775807 then (grommetref16_Format.l1 k2 l0 (x5_2 ++ ((rd_T58 l0 x6_2).f0)) (wrap64 (x6_2 + 1))) else (none))) else ((grommetref07_Double.f k2 ((rd_T58 l0 x6_2).f0)).bind fun bt113 => (if bt113.2 = 0 then (if x6_2 > 0 then (if x5_2.size + 1 ≤ 9223372036854775807 then (if (x5_2 ++ (⟨#[46]⟩ : ByteArray)).size + bt113.1.size ≤ 9223372036854775807 then (grommetref16_Format.l1 k2 l0 ((x5_2 ++ (⟨#[46]⟩ : ByteArray)) ++ bt113.1) (wrap64 (x6_2 + 1))) else (none)) else (none)) else (if x5_2.size + bt113.1.size ≤ 9223372036854775807 then (grommetref16_Format.l1 k2 l0 (x5_2 ++ bt113.1) (wrap64 (x6_2 + 1))) else (none))) else (some ((⟨#[]⟩ : ByteArray), 8))))))) = some (r1, r2) := by rw [← hbq15] at H; exact H
     have Nbq15 := Aside0.mk hbq15
     clear hbq15
     by_cases c16 : bq15 = true
     ·
      subst c16
      have H1 : ((grommetref06_Text.f k2 ((rd_T58 l0 x6_2).f1)).bind fun t110 => (if 1 + t110.size ≤ 9223372036854775807 then (if ((⟨#[91]⟩ : ByteArray) ++ t110).size + 1 ≤ 9223372036854775807 then (if x5_2.size + (((⟨#[91]⟩ : ByteArray) ++ t110) ++ (⟨#[93]⟩ : ByteArray)).size ≤ 9223372036854775807 then (grommetref16_Format.l1 k2 l0 (x5_2 ++ (((⟨#[91]⟩ : ByteArray) ++ t110) ++ (⟨#[93]⟩ : ByteArray))) (wrap64 (x6_2 + 1))) else (none)) else (none)) else (none))) = some (r1, r2) := by rw [if_pos rfl] at H; exact H
      clear H
      have H := H1
      clear H1
      replace H := Option.bind_eq_some_iff.mp H
      obtain ⟨t110, A170, H⟩ := H
      replace H : (if 1 + t110.size ≤ 9223372036854775807 then (if ((⟨#[91]⟩ : ByteArray) ++ t110).size + 1 ≤ 9223372036854775807 then (if x5_2.size + (((⟨#[91]⟩ : ByteArray) ++ t110) ++ (⟨#[93]⟩ : ByteArray)).size ≤ 9223372036854775807 then (grommetref16_Format.l1 k2 l0 (x5_2 ++ (((⟨#[91]⟩ : ByteArray) ++ t110) ++ (⟨#[93]⟩ : ByteArray))) (wrap64 (x6_2 + 1))) else (none)) else (none)) else (none)) = some (r1, r2) := H
      have A17 := Aside0.mk A170
      clear A170
      by_cases c18 : 1 + t110.size ≤ 9223372036854775807
      rotate_left
      ·
       rw [if_neg c18] at H
       exact absurd H (by simp)
      rw [if_pos c18] at H
      have c18b0 := eq_true c18
      have c18b1 : decide (1 + t110.size ≤ 9223372036854775807) = true := decide_eq_true c18
      try have c18b2 : (9223372036854775807 < 1 + t110.size) = False := eq_false (Nat.not_lt.2 c18)
      by_cases c19 : ((⟨#[91]⟩ : ByteArray) ++ t110).size + 1 ≤ 9223372036854775807
      rotate_left
      ·
       rw [if_neg c19] at H
       exact absurd H (by simp)
      rw [if_pos c19] at H
      have c19b0 := eq_true c19
      have c19b1 : decide (((⟨#[91]⟩ : ByteArray) ++ t110).size + 1 ≤ 9223372036854775807) = true := decide_eq_true c19
      try have c19b2 : (9223372036854775807 < ((⟨#[91]⟩ : ByteArray) ++ t110).size + 1) = False := eq_false (Nat.not_lt.2 c19)
      try (have c19n_ : (9223372036854775807 < 1 + t110.size + 1) = False := (by have z_ := c19; rw [ByteArray.size_append] at z_; exact eq_false (Nat.not_lt.2 z_)))
      by_cases c20 : x5_2.size + (((⟨#[91]⟩ : ByteArray) ++ t110) ++ (⟨#[93]⟩ : ByteArray)).size ≤ 9223372036854775807
      rotate_left
      ·
       rw [if_neg c20] at H
       exact absurd H (by simp)
      rw [if_pos c20] at H
      have c20b0 := eq_true c20
      have c20b1 : decide (x5_2.size + (((⟨#[91]⟩ : ByteArray) ++ t110) ++ (⟨#[93]⟩ : ByteArray)).size ≤ 9223372036854775807) = true := decide_eq_true c20
      try have c20b2 : (9223372036854775807 < x5_2.size + (((⟨#[91]⟩ : ByteArray) ++ t110) ++ (⟨#[93]⟩ : ByteArray)).size) = False := eq_false (Nat.not_lt.2 c20)
      have H' := Aside0.mk H
      clear H
      have p108 : 0 ≤ (x6_2 : Int) := of_decide_eq_true (qpb0_)
      have q108 : x6_2 < (l0.length : Int) := of_decide_eq_true (qpb0_)
      obtain ⟨ad108, e108, hx108_0, hx108_1, hx108_2⟩ := at_T58 HR0.out x6_2 p108 q108
      (try rw [← Nbq15.out] at hx108_2)
      (try rw [← Nbq15.out] at hw108_2)
      cases e108
      replace hx108_0 := (HB.out.cell (World.block_lt_of_cell? w _ hx108_0)).trans hx108_0
      replace hx108_1 := (HB.out.cell (World.block_lt_of_cell? w _ hx108_1)).trans hx108_1
      replace hx108_2 := (HB.out.cell (World.block_lt_of_cell? w _ hx108_2)).trans hx108_2
      replace p108 := eq_true p108
      replace q108 := eq_true q108
      have p109 : 0 ≤ (x6_2 : Int) := of_decide_eq_true (qpb0_)
      have q109 : x6_2 < (l0.length : Int) := of_decide_eq_true (qpb0_)
      obtain ⟨ad109, e109, hx109_0, hx109_1, hx109_2⟩ := at_T58 HR0.out x6_2 p109 q109
      (try rw [← Nbq15.out] at hx109_2)
      (try rw [← Nbq15.out] at hw109_2)
      obtain rfl : ad108 = ad109 := (by injection e109)
      replace hx109_0 := (HB.out.cell (World.block_lt_of_cell? w _ hx109_0)).trans hx109_0
      replace hx109_1 := (HB.out.cell (World.block_lt_of_cell? w _ hx109_1)).trans hx109_1
      replace hx109_2 := (HB.out.cell (World.block_lt_of_cell? w _ hx109_2)).trans hx109_2
      replace p109 := eq_true p109
      replace q109 := eq_true q109
      go_wp2_with (first | ((with_reducible refine gate_callee (f := 76) rfl ?_); refine goesL_ (some 74) rfl rfl Tryz.func76 (by kernel_rfl) rfl #[.int .i64 ((rd_T58 l0 x6_2).f1)] rfl (qpb3_) ?_; (with_reducible refine (grommetref06_Text.calls k2 ((rd_T58 l0 x6_2).f1) t110 _ (hG.below (qpb1_)) A17.out).mono ?_); rintro e w21 ⟨rfl, hb⟩; refine ⟨_, rfl, ?_⟩; have n0_ := Aside0.mk (below_step (qpb2_) hb); clear HB; have HB := n0_; clear n0_; (try clear hb)))
      go_roundg k2
      case measure => have := HK1.out; have := HK2.out; omega
      case rel => exact ⟨(x5_2 ++ (((⟨#[91]⟩ : ByteArray) ++ t110) ++ (⟨#[93]⟩ : ByteArray))), (wrap64 (x6_2 + 1)), (qpb4_), (qpb4_), (qpb5_), ⟨qpb7_⟩, ⟨qpb2_⟩⟩
     replace c16 := Bool.eq_false_iff.mpr c16
     subst c16
     have H1 : ((grommetref16_bare.f k2 ((rd_T58 l0 x6_2).f0)).bind fun t112 => (if t112 = true then (if x6_2 > 0 then (if x5_2.size + 1 ≤ 9223372036854775807 then (if (x5_2 ++ (⟨#[46]⟩ : ByteArray)).size + ((rd_T58 l0 x6_2).f0).size ≤ 9223372036854775807 then (grommetref16_Format.l1 k2 l0 ((x5_2 ++ (⟨#[46]⟩ : ByteArray)) ++ ((rd_T58 l0 x6_2).f0)) (wrap64 (x6_2 + 1))) else (none)) else (none)) else (if x5_2.size + ((rd_T58 l0 x6_2).f0).size ≤ 9223372036854775807 then (grommetref16_Format.l1 k2 l0 (x5_2 ++ ((rd_T58 l0 x6_2).f0)) (wrap64 (x6_2 + 1))) else (none))) else ((grommetref07_Double.f k2 ((rd_T58 l0 x6_2).f0)).bind fun bt113 => (if bt113.2 = 0 then (if x6_2 > 0 then (if x5_2.size + 1 ≤ 9223372036854775807 then (if (x5_2 ++ (⟨#[46]⟩ : ByteArray)).size + bt113.1.size ≤ 9223372036854775807 then (grommetref16_Format.l1 k2 l0 ((x5_2 ++ (⟨#[46]⟩ : ByteArray)) ++ bt113.1) (wrap64 (x6_2 + 1))) else (none)) else (none)) else (if x5_2.size + bt113.1.size ≤ 9223372036854775807 then (grommetref16_Format.l1 k2 l0 (x5_2 ++ bt113.1) (wrap64 (x6_2 + 1))) else (none))) else (some ((⟨#[]⟩ : ByteArray), 8)))))) = some (r1, r2) := by rw [if_neg (show ¬ (false = true) by decide)] at H; exact H
     clear H
     have H := H1
     clear H1
     replace H := Option.bind_eq_some_iff.mp H
     obtain ⟨t112, A220, H⟩ := H
     replace H : (if t112 = true then (if x6_2 > 0 then (if x5_2.size + 1 ≤ 9223372036854775807 then (if (x5_2 ++ (⟨#[46]⟩ : ByteArray)).size + ((rd_T58 l0 x6_2).f0).size ≤ 9223372036854775807 then (grommetref16_Format.l1 k2 l0 ((x5_2 ++ (⟨#[46]⟩ : ByteArray)) ++ ((rd_T58 l0 x6_2).f0)) (wrap64 (x6_2 + 1))) else (none)) else (none)) else (if x5_2.size + ((rd_T58 l0 x6_2).f0).size ≤ 9223372036854775807 then (grommetref16_Format.l1 k2 l0 (x5_2 ++ ((rd_T58 l0 x6_2).f0)) (wrap64 (x6_2 + 1))) else (none))) else ((grommetref07_Double.f k2 ((rd_T58 l0 x6_2).f0)).bind fun bt113 => (if bt113.2 = 0 then (if x6_2 > 0 then (if x5_2.size + 1 ≤ 9223372036854775807 then (if (x5_2 ++ (⟨#[46]⟩ : ByteArray)).size + bt113.1.size ≤ 9223372036854775807 then (grommetref16_Format.l1 k2 l0 ((x5_2 ++ (⟨#[46]⟩ : ByteArray)) ++ bt113.1) (wrap64 (x6_2 + 1))) else (none)) else (none)) else (if x5_2.size + bt113.1.size ≤ 9223372036854775807 then (grommetref16_Format.l1 k2 l0 (x5_2 ++ bt113.1) (wrap64 (x6_2 + 1))) else (none))) else (some ((⟨#[]⟩ : ByteArray), 8))))) = some (r1, r2) := H
     have A22 := Aside0.mk A220
     clear A220
     by_cases c23 : t112 = true
     ·
      subst c23
      have H1 : (if x6_2 > 0 then (if x5_2.size + 1 ≤ 9223372036854775807 then (if (x5_2 ++ (⟨#[46]⟩ : ByteArray)).size + ((rd_T58 l0 x6_2).f0).size ≤ 9223372036854775807 then (grommetref16_Format.l1 k2 l0 ((x5_2 ++ (⟨#[46]⟩ : ByteArray)) ++ ((rd_T58 l0 x6_2).f0)) (wrap64 (x6_2 + 1))) else (none)) else (none)) else (if x5_2.size + ((rd_T58 l0 x6_2).f0).size ≤ 9223372036854775807 then (grommetref16_Format.l1 k2 l0 (x5_2 ++ ((rd_T58 l0 x6_2).f0)) (wrap64 (x6_2 + 1))) else (none))) = some (r1, r2) := by rw [if_pos rfl] at H; exact H
      clear H
      have H := H1
      clear H1
      by_cases c24 : x6_2 > 0
      rotate_left
      ·
       rw [if_neg c24] at H
       have c24b0 : decide (0 < x6_2) = false := decide_eq_false c24
       clear c24
       by_cases c27 : x5_2.size + ((rd_T58 l0 x6_2).f0).size ≤ 9223372036854775807
       rotate_left
       ·
        rw [if_neg c27] at H
        exact absurd H (by simp)
       rw [if_pos c27] at H
       have c27b0 := eq_true c27
       have c27b1 : decide (x5_2.size + ((rd_T58 l0 x6_2).f0).size ≤ 9223372036854775807) = true := decide_eq_true c27
       try have c27b2 : (9223372036854775807 < x5_2.size + ((rd_T58 l0 x6_2).f0).size) = False := eq_false (Nat.not_lt.2 c27)
       have H' := Aside0.mk H
       clear H
       have p108 : 0 ≤ (x6_2 : Int) := of_decide_eq_true (qpb0_)
       have q108 : x6_2 < (l0.length : Int) := of_decide_eq_true (qpb0_)
       obtain ⟨ad108, e108, hx108_0, hx108_1, hx108_2⟩ := at_T58 HR0.out x6_2 p108 q108
       (try rw [← Nbq15.out] at hx108_2)
       (try rw [← Nbq15.out] at hw108_2)
       cases e108
       replace hx108_0 := (HB.out.cell (World.block_lt_of_cell? w _ hx108_0)).trans hx108_0
       replace hx108_1 := (HB.out.cell (World.block_lt_of_cell? w _ hx108_1)).trans hx108_1
       replace hx108_2 := (HB.out.cell (World.block_lt_of_cell? w _ hx108_2)).trans hx108_2
       replace p108 := eq_true p108
       replace q108 := eq_true q108
       have p111 : 0 ≤ (x6_2 : Int) := of_decide_eq_true (qpb0_)
       have q111 : x6_2 < (l0.length : Int) := of_decide_eq_true (qpb0_)
       obtain ⟨ad111, e111, hx111_0, hx111_1, hx111_2⟩ := at_T58 HR0.out x6_2 p111 q111
       (try rw [← Nbq15.out] at hx111_2)
       (try rw [← Nbq15.out] at hw111_2)
       obtain rfl : ad108 = ad111 := (by injection e111)
       replace hx111_0 := (HB.out.cell (World.block_lt_of_cell? w _ hx111_0)).trans hx111_0
       replace hx111_1 := (HB.out.cell (World.block_lt_of_cell? w _ hx111_1)).trans hx111_1
       replace hx111_2 := (HB.out.cell (World.block_lt_of_cell? w _ hx111_2)).trans hx111_2
       replace p111 := eq_true p111
       replace q111 := eq_true q111
       go_wp2_with (first | ((with_reducible refine gate_callee (f := 77) rfl ?_); refine goesL_ (some 84) rfl rfl Tryz.func77 (by kernel_rfl) rfl #[.string ((rd_T58 l0 x6_2).f0)] rfl (qpb3_) ?_; (with_reducible refine (grommetref16_bare.calls k2 ((rd_T58 l0 x6_2).f0) true _ (hG.below (qpb1_)) A22.out).mono ?_); rintro e w' ⟨rfl, ⟨nd, rfl⟩⟩; refine ⟨_, rfl, ?_⟩))
       go_roundg k2
       case measure => have := HK1.out; have := HK2.out; omega
       case rel => exact ⟨(x5_2 ++ ((rd_T58 l0 x6_2).f0)), (wrap64 (x6_2 + 1)), (qpb4_), (qpb4_), (qpb5_), ⟨qpb7_⟩, ⟨qpb2_⟩⟩
      rw [if_pos c24] at H
      have c24b0 : decide (0 < x6_2) = true := decide_eq_true c24
      clear c24
      by_cases c25 : x5_2.size + 1 ≤ 9223372036854775807
      rotate_left
      ·
       rw [if_neg c25] at H
       exact absurd H (by simp)
      rw [if_pos c25] at H
      have c25b0 := eq_true c25
      have c25b1 : decide (x5_2.size + 1 ≤ 9223372036854775807) = true := decide_eq_true c25
      try have c25b2 : (9223372036854775807 < x5_2.size + 1) = False := eq_false (Nat.not_lt.2 c25)
      by_cases c26 : (x5_2 ++ (⟨#[46]⟩ : ByteArray)).size + ((rd_T58 l0 x6_2).f0).size ≤ 9223372036854775807
      rotate_left
      ·
       rw [if_neg c26] at H
       exact absurd H (by simp)
      rw [if_pos c26] at H
      have c26b0 := eq_true c26
      have c26b1 : decide ((x5_2 ++ (⟨#[46]⟩ : ByteArray)).size + ((rd_T58 l0 x6_2).f0).size ≤ 9223372036854775807) = true := decide_eq_true c26
      try have c26b2 : (9223372036854775807 < (x5_2 ++ (⟨#[46]⟩ : ByteArray)).size + ((rd_T58 l0 x6_2).f0).size) = False := eq_false (Nat.not_lt.2 c26)
      have H' := Aside0.mk H
      clear H
      have p108 : 0 ≤ (x6_2 : Int) := of_decide_eq_true (qpb0_)
      have q108 : x6_2 < (l0.length : Int) := of_decide_eq_true (qpb0_)
      obtain ⟨ad108, e108, hx108_0, hx108_1, hx108_2⟩ := at_T58 HR0.out x6_2 p108 q108
      (try rw [← Nbq15.out] at hx108_2)
      (try rw [← Nbq15.out] at hw108_2)
      cases e108
      replace hx108_0 := (HB.out.cell (World.block_lt_of_cell? w _ hx108_0)).trans hx108_0
      replace hx108_1 := (HB.out.cell (World.block_lt_of_cell? w _ hx108_1)).trans hx108_1
      replace hx108_2 := (HB.out.cell (World.block_lt_of_cell? w _ hx108_2)).trans hx108_2
      replace p108 := eq_true p108
      replace q108 := eq_true q108
      have p111 : 0 ≤ (x6_2 : Int) := of_decide_eq_true (qpb0_)
      have q111 : x6_2 < (l0.length : Int) := of_decide_eq_true (qpb0_)
      obtain ⟨ad111, e111, hx111_0, hx111_1, hx111_2⟩ := at_T58 HR0.out x6_2 p111 q111
      (try rw [← Nbq15.out] at hx111_2)
      (try rw [← Nbq15.out] at hw111_2)
      obtain rfl : ad108 = ad111 := (by injection e111)
      replace hx111_0 := (HB.out.cell (World.block_lt_of_cell? w _ hx111_0)).trans hx111_0
      replace hx111_1 := (HB.out.cell (World.block_lt_of_cell? w _ hx111_1)).trans hx111_1
      replace hx111_2 := (HB.out.cell (World.block_lt_of_cell? w _ hx111_2)).trans hx111_2
      replace p111 := eq_true p111
      replace q111 := eq_true q111
      go_wp2_with (first | ((with_reducible refine gate_callee (f := 77) rfl ?_); refine goesL_ (some 84) rfl rfl Tryz.func77 (by kernel_rfl) rfl #[.string ((rd_T58 l0 x6_2).f0)] rfl (qpb3_) ?_; (with_reducible refine (grommetref16_bare.calls k2 ((rd_T58 l0 x6_2).f0) true _ (hG.below (qpb1_)) A22.out).mono ?_); rintro e w' ⟨rfl, ⟨nd, rfl⟩⟩; refine ⟨_, rfl, ?_⟩))
      go_roundg k2
      case measure => have := HK1.out; have := HK2.out; omega
      case rel => exact ⟨((x5_2 ++ (⟨#[46]⟩ : ByteArray)) ++ ((rd_T58 l0 x6_2).f0)), (wrap64 (x6_2 + 1)), (qpb4_), (qpb4_), (qpb5_), ⟨qpb7_⟩, ⟨qpb2_⟩⟩
     replace c23 := Bool.eq_false_iff.mpr c23
     subst c23
     have H1 : ((grommetref07_Double.f k2 ((rd_T58 l0 x6_2).f0)).bind fun bt113 => (if bt113.2 = 0 then (if x6_2 > 0 then (if x5_2.size + 1 ≤ 9223372036854775807 then (if (x5_2 ++ (⟨#[46]⟩ : ByteArray)).size + bt113.1.size ≤ 9223372036854775807 then (grommetref16_Format.l1 k2 l0 ((x5_2 ++ (⟨#[46]⟩ : ByteArray)) ++ bt113.1) (wrap64 (x6_2 + 1))) else (none)) else (none)) else (if x5_2.size + bt113.1.size ≤ 9223372036854775807 then (grommetref16_Format.l1 k2 l0 (x5_2 ++ bt113.1) (wrap64 (x6_2 + 1))) else (none))) else (some ((⟨#[]⟩ : ByteArray), 8)))) = some (r1, r2) := by rw [if_neg (show ¬ (false = true) by decide)] at H; exact H
     clear H
     have H := H1
     clear H1
     replace H := Option.bind_eq_some_iff.mp H
     obtain ⟨⟨t113, t114⟩, A280, H⟩ := H
     replace H : (if t114 = 0 then (if x6_2 > 0 then (if x5_2.size + 1 ≤ 9223372036854775807 then (if (x5_2 ++ (⟨#[46]⟩ : ByteArray)).size + t113.size ≤ 9223372036854775807 then (grommetref16_Format.l1 k2 l0 ((x5_2 ++ (⟨#[46]⟩ : ByteArray)) ++ t113) (wrap64 (x6_2 + 1))) else (none)) else (none)) else (if x5_2.size + t113.size ≤ 9223372036854775807 then (grommetref16_Format.l1 k2 l0 (x5_2 ++ t113) (wrap64 (x6_2 + 1))) else (none))) else (some ((⟨#[]⟩ : ByteArray), 8))) = some (r1, r2) := H
     have A28 := Aside0.mk A280
     clear A280
     by_cases c29 : t114 = 0
     rotate_left
     ·
      rw [if_neg c29] at H
      have c29b0 : (t114 == 0) = false := beq_eq_false_iff_ne.mpr c29
      have c29b1 : (t114 != 0) = true := bne_iff_ne.mpr c29
      simp only [Option.some.injEq, Prod.mk.injEq] at H
      obtain ⟨rfl, rfl⟩ := H
      have p108 : 0 ≤ (x6_2 : Int) := of_decide_eq_true (qpb0_)
      have q108 : x6_2 < (l0.length : Int) := of_decide_eq_true (qpb0_)
      obtain ⟨ad108, e108, hx108_0, hx108_1, hx108_2⟩ := at_T58 HR0.out x6_2 p108 q108
      (try rw [← Nbq15.out] at hx108_2)
      (try rw [← Nbq15.out] at hw108_2)
      cases e108
      replace hx108_0 := (HB.out.cell (World.block_lt_of_cell? w _ hx108_0)).trans hx108_0
      replace hx108_1 := (HB.out.cell (World.block_lt_of_cell? w _ hx108_1)).trans hx108_1
      replace hx108_2 := (HB.out.cell (World.block_lt_of_cell? w _ hx108_2)).trans hx108_2
      replace p108 := eq_true p108
      replace q108 := eq_true q108
      have p111 : 0 ≤ (x6_2 : Int) := of_decide_eq_true (qpb0_)
      have q111 : x6_2 < (l0.length : Int) := of_decide_eq_true (qpb0_)
      obtain ⟨ad111, e111, hx111_0, hx111_1, hx111_2⟩ := at_T58 HR0.out x6_2 p111 q111
      (try rw [← Nbq15.out] at hx111_2)
      (try rw [← Nbq15.out] at hw111_2)
      obtain rfl : ad108 = ad111 := (by injection e111)
      replace hx111_0 := (HB.out.cell (World.block_lt_of_cell? w _ hx111_0)).trans hx111_0
      replace hx111_1 := (HB.out.cell (World.block_lt_of_cell? w _ hx111_1)).trans hx111_1
      replace hx111_2 := (HB.out.cell (World.block_lt_of_cell? w _ hx111_2)).trans hx111_2
      replace p111 := eq_true p111
      replace q111 := eq_true q111
      go_wp2_with (first | ((with_reducible refine gate_callee (f := 77) rfl ?_); refine goesL_ (some 84) rfl rfl Tryz.func77 (by kernel_rfl) rfl #[.string ((rd_T58 l0 x6_2).f0)] rfl (qpb3_) ?_; (with_reducible refine (grommetref16_bare.calls k2 ((rd_T58 l0 x6_2).f0) false _ (hG.below (qpb1_)) A22.out).mono ?_); rintro e w' ⟨rfl, ⟨nd, rfl⟩⟩; refine ⟨_, rfl, ?_⟩) | ((with_reducible refine gate_callee (f := 78) rfl ?_); refine goesL_ (some 88) rfl rfl Tryz.func78 (by kernel_rfl) rfl #[.string ((rd_T58 l0 x6_2).f0)] rfl (qpb3_) ?_; (with_reducible refine (grommetref07_Double.calls k2 ((rd_T58 l0 x6_2).f0) t113 t114 _ (hG.below (qpb1_)) A28.out).mono ?_); rintro e w36 ⟨rfl, hb⟩; refine ⟨_, rfl, ?_⟩; have n0_ := Aside0.mk (below_step (qpb2_) hb); clear HB; have HB := n0_; clear n0_; (try clear hb)))
      go_ret2
      exact ⟨qpb6_, qpb2_⟩
     rw [if_pos c29] at H
     have c29b0 : (t114 == 0) = true := beq_iff_eq.mpr c29
     have c29b1 : (t114 != 0) = false := bne_eq_false_iff_eq.mpr c29
     clear c29
     by_cases c30 : x6_2 > 0
     rotate_left
     ·
      rw [if_neg c30] at H
      have c30b0 : decide (0 < x6_2) = false := decide_eq_false c30
      clear c30
      by_cases c34 : x5_2.size + t113.size ≤ 9223372036854775807
      rotate_left
      ·
       rw [if_neg c34] at H
       exact absurd H (by simp)
      rw [if_pos c34] at H
      have c34b0 := eq_true c34
      have c34b1 : decide (x5_2.size + t113.size ≤ 9223372036854775807) = true := decide_eq_true c34
      try have c34b2 : (9223372036854775807 < x5_2.size + t113.size) = False := eq_false (Nat.not_lt.2 c34)
      have H' := Aside0.mk H
      clear H
      have p108 : 0 ≤ (x6_2 : Int) := of_decide_eq_true (qpb0_)
      have q108 : x6_2 < (l0.length : Int) := of_decide_eq_true (qpb0_)
      obtain ⟨ad108, e108, hx108_0, hx108_1, hx108_2⟩ := at_T58 HR0.out x6_2 p108 q108
      (try rw [← Nbq15.out] at hx108_2)
      (try rw [← Nbq15.out] at hw108_2)
      cases e108
      replace hx108_0 := (HB.out.cell (World.block_lt_of_cell? w _ hx108_0)).trans hx108_0
      replace hx108_1 := (HB.out.cell (World.block_lt_of_cell? w _ hx108_1)).trans hx108_1
      replace hx108_2 := (HB.out.cell (World.block_lt_of_cell? w _ hx108_2)).trans hx108_2
      replace p108 := eq_true p108
      replace q108 := eq_true q108
      have p111 : 0 ≤ (x6_2 : Int) := of_decide_eq_true (qpb0_)
      have q111 : x6_2 < (l0.length : Int) := of_decide_eq_true (qpb0_)
      obtain ⟨ad111, e111, hx111_0, hx111_1, hx111_2⟩ := at_T58 HR0.out x6_2 p111 q111
      (try rw [← Nbq15.out] at hx111_2)
      (try rw [← Nbq15.out] at hw111_2)
      obtain rfl : ad108 = ad111 := (by injection e111)
      replace hx111_0 := (HB.out.cell (World.block_lt_of_cell? w _ hx111_0)).trans hx111_0
      replace hx111_1 := (HB.out.cell (World.block_lt_of_cell? w _ hx111_1)).trans hx111_1
      replace hx111_2 := (HB.out.cell (World.block_lt_of_cell? w _ hx111_2)).trans hx111_2
      replace p111 := eq_true p111
      replace q111 := eq_true q111
      go_wp2_with (first | ((with_reducible refine gate_callee (f := 77) rfl ?_); refine goesL_ (some 84) rfl rfl Tryz.func77 (by kernel_rfl) rfl #[.string ((rd_T58 l0 x6_2).f0)] rfl (qpb3_) ?_; (with_reducible refine (grommetref16_bare.calls k2 ((rd_T58 l0 x6_2).f0) false _ (hG.below (qpb1_)) A22.out).mono ?_); rintro e w' ⟨rfl, ⟨nd, rfl⟩⟩; refine ⟨_, rfl, ?_⟩) | ((with_reducible refine gate_callee (f := 78) rfl ?_); refine goesL_ (some 88) rfl rfl Tryz.func78 (by kernel_rfl) rfl #[.string ((rd_T58 l0 x6_2).f0)] rfl (qpb3_) ?_; (with_reducible refine (grommetref07_Double.calls k2 ((rd_T58 l0 x6_2).f0) t113 t114 _ (hG.below (qpb1_)) A28.out).mono ?_); rintro e w35 ⟨rfl, hb⟩; refine ⟨_, rfl, ?_⟩; have n0_ := Aside0.mk (below_step (qpb2_) hb); clear HB; have HB := n0_; clear n0_; (try clear hb)))
      go_roundg k2
      case measure => have := HK1.out; have := HK2.out; omega
      case rel => exact ⟨(x5_2 ++ t113), (wrap64 (x6_2 + 1)), (qpb4_), (qpb4_), (qpb5_), ⟨qpb7_⟩, ⟨qpb2_⟩⟩
     rw [if_pos c30] at H
     have c30b0 : decide (0 < x6_2) = true := decide_eq_true c30
     clear c30
     by_cases c31 : x5_2.size + 1 ≤ 9223372036854775807
     rotate_left
     ·
      rw [if_neg c31] at H
      exact absurd H (by simp)
     rw [if_pos c31] at H
     have c31b0 := eq_true c31
     have c31b1 : decide (x5_2.size + 1 ≤ 9223372036854775807) = true := decide_eq_true c31
     try have c31b2 : (9223372036854775807 < x5_2.size + 1) = False := eq_false (Nat.not_lt.2 c31)
     by_cases c32 : (x5_2 ++ (⟨#[46]⟩ : ByteArray)).size + t113.size ≤ 9223372036854775807
     rotate_left
     ·
      rw [if_neg c32] at H
      exact absurd H (by simp)
     rw [if_pos c32] at H
     have c32b0 := eq_true c32
     have c32b1 : decide ((x5_2 ++ (⟨#[46]⟩ : ByteArray)).size + t113.size ≤ 9223372036854775807) = true := decide_eq_true c32
     try have c32b2 : (9223372036854775807 < (x5_2 ++ (⟨#[46]⟩ : ByteArray)).size + t113.size) = False := eq_false (Nat.not_lt.2 c32)
     have H' := Aside0.mk H
     clear H
     have p108 : 0 ≤ (x6_2 : Int) := of_decide_eq_true (qpb0_)
     have q108 : x6_2 < (l0.length : Int) := of_decide_eq_true (qpb0_)
     obtain ⟨ad108, e108, hx108_0, hx108_1, hx108_2⟩ := at_T58 HR0.out x6_2 p108 q108
     (try rw [← Nbq15.out] at hx108_2)
     (try rw [← Nbq15.out] at hw108_2)
     cases e108
     replace hx108_0 := (HB.out.cell (World.block_lt_of_cell? w _ hx108_0)).trans hx108_0
     replace hx108_1 := (HB.out.cell (World.block_lt_of_cell? w _ hx108_1)).trans hx108_1
     replace hx108_2 := (HB.out.cell (World.block_lt_of_cell? w _ hx108_2)).trans hx108_2
     replace p108 := eq_true p108
     replace q108 := eq_true q108
     have p111 : 0 ≤ (x6_2 : Int) := of_decide_eq_true (qpb0_)
     have q111 : x6_2 < (l0.length : Int) := of_decide_eq_true (qpb0_)
     obtain ⟨ad111, e111, hx111_0, hx111_1, hx111_2⟩ := at_T58 HR0.out x6_2 p111 q111
     (try rw [← Nbq15.out] at hx111_2)
     (try rw [← Nbq15.out] at hw111_2)
     obtain rfl : ad108 = ad111 := (by injection e111)
     replace hx111_0 := (HB.out.cell (World.block_lt_of_cell? w _ hx111_0)).trans hx111_0
     replace hx111_1 := (HB.out.cell (World.block_lt_of_cell? w _ hx111_1)).trans hx111_1
     replace hx111_2 := (HB.out.cell (World.block_lt_of_cell? w _ hx111_2)).trans hx111_2
     replace p111 := eq_true p111
     replace q111 := eq_true q111
     go_wp2_with (first | ((with_reducible refine gate_callee (f := 77) rfl ?_); refine goesL_ (some 84) rfl rfl Tryz.func77 (by kernel_rfl) rfl #[.string ((rd_T58 l0 x6_2).f0)] rfl (qpb3_) ?_; (with_reducible refine (grommetref16_bare.calls k2 ((rd_T58 l0 x6_2).f0) false _ (hG.below (qpb1_)) A22.out).mono ?_); rintro e w' ⟨rfl, ⟨nd, rfl⟩⟩; refine ⟨_, rfl, ?_⟩) | ((with_reducible refine gate_callee (f := 78) rfl ?_); refine goesL_ (some 88) rfl rfl Tryz.func78 (by kernel_rfl) rfl #[.string ((rd_T58 l0 x6_2).f0)] rfl (qpb3_) ?_; (with_reducible refine (grommetref07_Double.calls k2 ((rd_T58 l0 x6_2).f0) t113 t114 _ (hG.below (qpb1_)) A28.out).mono ?_); rintro e w33 ⟨rfl, hb⟩; refine ⟨_, rfl, ?_⟩; have n0_ := Aside0.mk (below_step (qpb2_) hb); clear HB; have HB := n0_; clear n0_; (try clear hb)))
     go_roundg k2
     case measure => have := HK1.out; have := HK2.out; omega
     case rel => exact ⟨((x5_2 ++ (⟨#[46]⟩ : ByteArray)) ++ t113), (wrap64 (x6_2 + 1)), (qpb4_), (qpb4_), (qpb5_), ⟨qpb7_⟩, ⟨qpb2_⟩⟩
end Go.Proofs.YtiooacmplmcphaaGreatDoor.PX
namespace Go.Proofs.YtiooacmplmcphaaGreatDoor.Paths
open RowKit YtiooacmplmcphaaGreatDoor.PX YtiooacmplmcphaaGreatDoor.Plug YtiooacmplmcphaaGreatDoor.Utf YtiooacmplmcphaaGreatDoor.Nums YtiooacmplmcphaaGreatDoorW.PrintWords YtiooacmplmcphaaGreatDoorW.PrintLast
set_option maxRecDepth 100000 in
theorem letter_fact : ∀ c : Fin 256, grommetref16_letter.f (c.val : Int) = some (isLet (UInt8.ofNat c.val)) := by decide +kernel
theorem letter_of (c : UInt8) : grommetref16_letter.f (c.toNat : Int) = some (isLet c) := by
 have := letter_fact ⟨c.toNat, UInt8.toNat_lt c⟩
 simpa using this
theorem bare_l0 (s : ByteArray) (hs : s.size ≤ 1099511627775) : ∀ (d i K : Nat), s.size = i + d → d + 1 ≤ K → grommetref16_bare.l0 K s (i : Int) = some ((s.data.toList.drop i).all isLet && (s.data.toList != []))
 | 0, i, K, hd, hK => by
  obtain ⟨K, rfl⟩ : ∃ m, K = m + 1 := ⟨K - 1, by omega⟩
  have hL := size_list s
  rw [grommetref16_bare.l0, if_neg (by omega), List.drop_of_length_le (by omega), Lib.toList_data]
  rfl
 | d + 1, i, K, hd, hK => by
  obtain ⟨K, rfl⟩ : ∃ m, K = m + 1 := ⟨K - 1, by omega⟩
  have hL := size_list s
  have hlt : i < s.data.toList.length := by omega
  have hat : at_ s.data.toList i = (s.data.toList[i]).toNat := by unfold at_; rw [List.getD_eq_getElem?_getD, List.getElem?_eq_getElem hlt]; rfl
  rw [grommetref16_bare.l0, if_pos (by omega), if_pos (by omega), bt_at_, hat, letter_of, Option.bind_some, List.drop_eq_getElem_cons hlt, List.all_cons]
  cases isLet s.data.toList[i] with
  | true => rw [if_pos rfl, wrap1 i (by omega), bare_l0 s hs d (i + 1) K (by omega) (by omega)]; simp
  | false => rw [if_neg Bool.false_ne_true]; simp
theorem bare_of (s : ByteArray) (hs : s.size ≤ 1099511627775) (K : Nat) (hK : s.size + 1 ≤ K) : grommetref16_bare.f K s = some (s.data.toList.all isLet && (s.data.toList != [])) := by
 unfold grommetref16_bare.f
 rw [show (0 : Int) = ((0 : Nat) : Int) from rfl, bare_l0 s hs s.size 0 K (by omega) hK, List.drop_zero]
theorem okStep_conv (x : Sr) : okStep (conv x) = if x.f2 then decide (0 ≤ x.f1) && decide (x.f1 ≤ 999999) else decide (x.f0.size ≤ 256) := rfl
theorem fmt_l1 (l : List Sr) (hl : l.length ≤ 64) (hok : ∀ x ∈ l, okStep (conv x) = true) : ∀ (d i K : Nat) (acc : List UInt8), l.length = i + d → acc.length ≤ 3000 * i → d + 400 ≤ K →
  grommetref16_Format.l1 K l ⟨acc.toArray⟩ (i : Int) = some (⟨(fmtF (decide (i = 0)) ((l.drop i).map conv) acc).1.toArray⟩, (fmtF (decide (i = 0)) ((l.drop i).map conv) acc).2)
 | 0, i, K, acc, hd, ha, hK => by
  obtain ⟨K, rfl⟩ : ∃ m, K = m + 1 := ⟨K - 1, by omega⟩
  rw [grommetref16_Format.l1, if_neg (by omega), List.drop_of_length_le (by omega)]; rfl
 | d + 1, i, K, acc, hd, ha, hK => by
  obtain ⟨K, rfl⟩ : ∃ m, K = m + 1 := ⟨K - 1, by omega⟩
  have hlt : i < l.length := by omega
  have hx := hok l[i] (List.getElem_mem hlt)
  have ih := fmt_l1 l hl hok d (i + 1) K
  have hd1 : decide (i + 1 = 0) = false := decide_eq_false (by omega)
  rw [hd1] at ih
  rw [grommetref16_Format.l1, if_pos (by omega), if_pos (by omega), rd_ref l i hlt, wrap1 i (by omega), List.drop_eq_getElem_cons hlt, List.map_cons, fmtF]
  rw [okStep_conv] at hx
  have hc : (conv l[i]).f2 = l[i].f2 ∧ (conv l[i]).f1 = l[i].f1 ∧ (conv l[i]).f0 = l[i].f0 := ⟨rfl, rfl, rfl⟩
  rw [hc.1, hc.2.1, hc.2.2]
  clear hc
  generalize l[i] = x at *
  obtain ⟨k, n, g⟩ := x
  dsimp only at hx ⊢
  have asz : (⟨acc.toArray⟩ : ByteArray).size = acc.length := rfl
  cases g with
  | true =>
   have hn : 0 ≤ n ∧ n ≤ 999999 := by simpa using hx
   have hT : grommetref06_Text.f K n = some ⟨(Lib.itoa n).toArray⟩ := by
    obtain ⟨K, rfl⟩ : ∃ m, K = m + 32 := ⟨K - 32, by omega⟩
    exact text_at n (by omega) (by omega) K
   have hil := Lib.itoa_length_le n (by omega) (by omega)
   have isz : (⟨(Lib.itoa n).toArray⟩ : ByteArray).size = (Lib.itoa n).length := rfl
   have e1 : (⟨#[91]⟩ : ByteArray) ++ (⟨(Lib.itoa n).toArray⟩ : ByteArray) = ⟨(91 :: Lib.itoa n).toArray⟩ := of_bytes (by rw [app_bytes]; rfl)
   have e2 : (⟨(91 :: Lib.itoa n).toArray⟩ : ByteArray) ++ (⟨#[93]⟩ : ByteArray) = ⟨(91 :: (Lib.itoa n ++ [93])).toArray⟩ := of_bytes (by rw [app_bytes]; rfl)
   have z1 : (⟨(91 :: Lib.itoa n).toArray⟩ : ByteArray).size = (Lib.itoa n).length + 1 := rfl
   have z2 : (⟨(91 :: (Lib.itoa n ++ [93])).toArray⟩ : ByteArray).size = (Lib.itoa n).length + 2 := by show (91 :: (Lib.itoa n ++ [93])).length = _; simp
   have e3 : (⟨acc.toArray⟩ : ByteArray) ++ (⟨(91 :: (Lib.itoa n ++ [93])).toArray⟩ : ByteArray) = ⟨(acc ++ (91 :: (Lib.itoa n ++ [93]))).toArray⟩ := of_bytes (by rw [app_bytes])
   rw [if_pos rfl, if_pos rfl, hT, Option.bind_some, e1, if_pos (by omega), if_pos (by omega), e2, if_pos (by omega), e3]
   exact ih _ (by omega) (by rw [List.length_append]; simp; omega) (by omega)
  | false =>
   have hk : k.size ≤ 256 := by simpa using hx
   have hL := size_list k
   have hB := bare_of k (by omega) K (by omega)
   have hD := ref_double k (by omega) K (by omega)
   have hkl := keyT_len k.data.toList
   have cat : ∀ t : List UInt8, (⟨acc.toArray⟩ : ByteArray) ++ (⟨t.toArray⟩ : ByteArray) = ⟨(acc ++ t).toArray⟩ := fun t => of_bytes (by rw [app_bytes])
   have dot : (⟨acc.toArray⟩ : ByteArray) ++ (⟨#[46]⟩ : ByteArray) = ⟨(acc ++ [46]).toArray⟩ := of_bytes (by rw [app_bytes])
   have cat2 : ∀ t : List UInt8, (⟨(acc ++ [46]).toArray⟩ : ByteArray) ++ (⟨t.toArray⟩ : ByteArray) = ⟨(acc ++ ([46] ++ t)).toArray⟩ := fun t => of_bytes (by rw [app_bytes]; simp)
   have dsz : (⟨(acc ++ [46]).toArray⟩ : ByteArray).size = acc.length + 1 := by show (acc ++ [46]).length = _; simp
   have tsz : ∀ t : List UInt8, (⟨t.toArray⟩ : ByteArray).size = t.length := fun _ => rfl
   have hkk : k = ⟨k.data.toList.toArray⟩ := of_bytes rfl
   have fin : ∀ t : List UInt8, t.length ≤ 2562 → (if (i : Int) > 0 then (if (⟨acc.toArray⟩ : ByteArray).size + 1 ≤ 9223372036854775807 then (if ((⟨acc.toArray⟩ : ByteArray) ++ (⟨#[46]⟩ : ByteArray)).size + (⟨t.toArray⟩ : ByteArray).size ≤ 9223372036854775807 then (grommetref16_Format.l1 K l (((⟨acc.toArray⟩ : ByteArray) ++ (⟨#[46]⟩ : ByteArray)) ++ ⟨t.toArray⟩) ((i + 1 : Nat) : Int)) else (none)) else (none)) else (if (⟨acc.toArray⟩ : ByteArray).size + (⟨t.toArray⟩ : ByteArray).size ≤ 9223372036854775807 then (grommetref16_Format.l1 K l ((⟨acc.toArray⟩ : ByteArray) ++ ⟨t.toArray⟩) ((i + 1 : Nat) : Int)) else (none))) =
     some (⟨(fmtF false ((l.drop (i + 1)).map conv) (acc ++ ((if decide (i = 0) then [] else [46]) ++ t))).1.toArray⟩, (fmtF false ((l.drop (i + 1)).map conv) (acc ++ ((if decide (i = 0) then [] else [46]) ++ t))).2) := by
    intro t ht
    by_cases z : i = 0
    · rw [if_neg (by omega), if_pos (by rw [asz, tsz]; omega), cat, ih _ (by omega) (by rw [List.length_append]; omega) (by omega), decide_eq_true z]; rfl
    rw [if_pos (by omega), if_pos (by rw [asz]; omega), dot, if_pos (by rw [dsz, tsz]; omega), cat2, ih _ (by omega) (by rw [List.length_append, List.length_append, List.length_singleton]; omega) (by omega), decide_eq_false z]; rfl
   rw [if_neg Bool.false_ne_true, if_neg Bool.false_ne_true, hB, Option.bind_some]
   by_cases c : k.data.toList ≠ [] ∧ k.data.toList.all isLet = true
   ·
    have hkt : keyT k.data.toList = (k.data.toList, 0) := by unfold keyT; rw [if_pos c]
    rw [if_pos (by rw [c.2, Bool.true_and, bne_iff_ne]; exact c.1), hkt]
    dsimp only
    have h9 := fin k.data.toList (by omega)
    rw [← hkk] at h9
    refine h9.trans ?_
    rw [if_neg (show ¬ ((0 : Int) ≠ 0) by simp)]
   have hkt : keyT k.data.toList = doubleOf k.data.toList := by unfold keyT; rw [if_neg c]
   rw [if_neg (by rw [Bool.and_eq_true, bne_iff_ne]; exact fun e => c ⟨e.2, e.1⟩), hD, Option.bind_some, hkt]
   rw [hkt] at hkl
   dsimp only
   by_cases e : (doubleOf k.data.toList).2 = 0
   ·
    rw [if_pos e]
    refine (fin _ (by omega)).trans ?_
    rw [if_neg (show ¬ ((doubleOf k.data.toList).2 ≠ 0) from fun h => h e)]
   have e8 : (doubleOf k.data.toList).2 = 8 := by
    unfold doubleOf at e ⊢
    split
    · rename_i zs hz; rw [hz] at e; exact absurd rfl e
    · rfl
   rw [if_neg e, if_pos e, e8]
theorem fmt_l0 (l : List Sr) (hl : l.length ≤ 64) : ∀ (d i K : Nat), l.length = i + d → (∀ x ∈ l.take i, okStep (conv x) = true) → d + 600 ≤ K →
  grommetref16_Format.l0 K l (i : Int) = some (if (l.map conv).all okStep = true then (⟨(fmtF true (l.map conv) []).1.toArray⟩, (fmtF true (l.map conv) []).2) else (⟨#[]⟩, 5))
 | 0, i, K, hd, hok, hK => by
  obtain ⟨K, rfl⟩ : ∃ m, K = m + 1 := ⟨K - 1, by omega⟩
  rw [List.take_of_length_le (by omega)] at hok
  have hall : (l.map conv).all okStep = true := by
   rw [List.all_eq_true]; intro x hx; obtain ⟨y, hy, rfl⟩ := List.mem_map.1 hx; exact hok y hy
  rw [grommetref16_Format.l0, if_neg (by omega), if_pos hall, show (⟨#[]⟩ : ByteArray) = ⟨([] : List UInt8).toArray⟩ from rfl, show (0 : Int) = ((0 : Nat) : Int) from rfl, fmt_l1 l hl hok l.length 0 K [] (by omega) (by simp) (by omega)]
  rfl
 | d + 1, i, K, hd, hok, hK => by
  obtain ⟨K, rfl⟩ : ∃ m, K = m + 1 := ⟨K - 1, by omega⟩
  have hlt : i < l.length := by omega
  have ih := fmt_l0 l hl d (i + 1) K (by omega)
  have stop : okStep (conv l[i]) = false → ¬ (l.map conv).all okStep = true := fun hf ha => by
   have := List.all_eq_true.1 ha (conv l[i]) (List.mem_map.2 ⟨_, List.getElem_mem hlt, rfl⟩)
   rw [hf] at this; cases this
  have go : okStep (conv l[i]) = true → ∀ x ∈ l.take (i + 1), okStep (conv x) = true := fun ho x hx => by
   rw [List.take_succ_eq_append_getElem hlt, List.mem_append, List.mem_singleton] at hx
   rcases hx with hx | rfl
   · exact hok x hx
   · exact ho
  rw [grommetref16_Format.l0, if_pos (by omega), if_pos (by omega), rd_ref l i hlt, wrap1 i (by omega)]
  rw [okStep_conv] at stop go
  generalize l[i] = x at *
  obtain ⟨k, n, g⟩ := x
  dsimp only at stop go ⊢
  cases g with
  | true =>
   rw [if_pos rfl]
   by_cases a : n < 0
   · rw [if_pos a, if_neg (stop (by simp; omega))]
   rw [if_neg a]
   by_cases b : n > 999999
   · rw [if_pos b, if_neg (stop (by simp; omega))]
   rw [if_neg b, if_pos rfl]; exact ih (go (by simp; omega)) (by omega)
  | false =>
   rw [if_neg Bool.false_ne_true, if_neg Bool.false_ne_true]
   by_cases a : (k.size : Int) > 256
   · rw [if_pos a, if_neg (stop (by simp; omega))]
   rw [if_neg a]; exact ih (go (by simp; omega)) (by omega)
theorem ref_format (l : List Sr) (K : Nat) (hK : 700 ≤ K) : grommetref16_Format.f K l = some (⟨(fmtB (l.map conv)).1.toArray⟩, (fmtB (l.map conv)).2) := by
 unfold grommetref16_Format.f fmtB
 rw [List.length_map]
 by_cases a : 64 < l.length
 · rw [if_pos (by omega), if_pos a]
 rw [if_neg (by omega), if_neg a, show (0 : Int) = ((0 : Nat) : Int) from rfl, fmt_l0 l (by omega) l.length 0 K (by omega) (by simp) (by omega)]
 by_cases b : (l.map conv).all okStep = true
 · rw [if_pos b, if_pos b]
 rw [if_neg b, if_neg b]
end Go.Proofs.YtiooacmplmcphaaGreatDoor.Paths
namespace Go.Proofs.YtiooacmplmcphaaGreatDoor.Plug
open RowKit YtiooacmplmcphaaGreatDoor YtiooacmplmcphaaGreatDoor.PX YtiooacmplmcphaaGreatDoor.Utf YtiooacmplmcphaaGreatDoor.Mapk YtiooacmplmcphaaGreatDoor.Paths YtiooacmplmcphaaGreatDoor.Graphs YtiooacmplmcphaaGreatDoorW.PrintWords YtiooacmplmcphaaGreatDoorW.PrintLast YtiooacmplmcphaaGreatDoorW.PrintMore
def grommetref16_Get.f (l : List Nd) (root : Int) (k : List Sr) : Option (Int × Int) := if sizesB l = true then some (getG l root (k.map conv)) else none
theorem walk_drop (l : List Nd) (k : List Sr) (i : Nat) (h : i < k.length) (at_ : Int) : walkG l ((k.drop i).map conv) at_ = if (Graphs.stepG l at_ (conv k[i])).2 = 0 then walkG l ((k.drop (i + 1)).map conv) (Graphs.stepG l at_ (conv k[i])).1 else (0, (Graphs.stepG l at_ (conv k[i])).2) := by
  rw [List.drop_eq_getElem_cons h]; rfl
theorem okStep_pos (x : S98) (h : okStep x = true) (hx : x.f2 = true) : 0 ≤ x.f1 := by unfold okStep at h; rw [hx] at h; simp at h; exact h.1
theorem rd_srf' (l : List Sr) (i : Nat) (h : i < l.length) : rd_T58 l (i : Int) = l[i] := by
  unfold rd_T58; rw [Int.toNat_natCast, List.getD_eq_getElem?_getD, List.getElem?_eq_getElem h]; rfl
set_option maxHeartbeats 8000000 in
set_option maxRecDepth 100000 in
theorem grommetref16_Get.calls (A0 : Option Addr) (c0 : Nat) (l : List Nd) (root : Int) (A1 : Option Addr) (c1 : Nat) (k : List Sr) (r1 r2 : Int) (w : World) (hr0 : Kd.C k45 w A0 l.length l) (hc0 : l.length ≤ c0) (hr1 : Kd.C k58 w A1 k.length k) (hc1 : k.length ≤ c1) (hG : Glob.G w) (h : grommetref16_Get.f l root k = some (r1, r2)) :
    Calls Tryz.prog 27 #[.agg #[.slice A0 l.length c0, .int .i64 root], .slice A1 k.length c1] w fun e w' => e = .returned (.tuple #[.int .i64 r1, .int .i64 r2]) ∧ Below w.heap.size w w' := by
  unfold grommetref16_Get.f at h
  by_cases hz1 : sizesB l = true
  · rw [if_pos hz1] at h
    have hR := Option.some.inj h
    have HR := Lib.hid hr0
    have H2 := Lib.hid hr1
    obtain ⟨rt, hrt⟩ : ∃ b, rightB l root = b := ⟨_, rfl⟩
    obtain ⟨K, hK⟩ : ∃ K, allL l + 4 * l.length + 10 ≤ K := ⟨_, Nat.le_refl _⟩
    have HRT := Lib.hid (show grommetref12_Right.f K l root = some rt by rw [ref_right l root hz1 K hK, hrt])
    obtain ⟨fm, hfm⟩ : ∃ x, fmtB (k.map conv) = x := ⟨_, rfl⟩
    have HFM := ref_format k 700 (Nat.le_refl _)
    rw [hfm] at HFM
    obtain ⟨ft, fe⟩ := fm
    dsimp only at HFM
    obtain ⟨tx, htx⟩ : ∃ x : ByteArray, (⟨ft.toArray⟩ : ByteArray) = x := ⟨_, rfl⟩
    rw [htx] at HFM
    replace HFM := Lib.hid HFM
    have HOK := Lib.hid (show fe = 0 → k.length ≤ 64 ∧ ∀ x ∈ k, okStep (conv x) = true from fun e0 => by
      obtain ⟨h1, h2, _⟩ := fmtB_ok (k.map conv) (by rw [hfm]; exact e0)
      exact ⟨by simpa using h1, fun x hx => h2 _ (List.mem_map.2 ⟨x, hx, rfl⟩)⟩)
    have hGT : getG l root (k.map conv) = if fe = 0 then (if rt = true then walkG l (k.map conv) root else (0, 1)) else (0, 1) := by unfold getG; rw [hfm, hrt]
    rw [hGT] at hR
    have HS := Lib.hid hz1
    clear h hr0 hr1 hz1 hK hfm htx hGT
    cases rt with
    | false =>
      have HF : Hid (r1 = 0 ∧ r2 = 1) := Lib.hid (by
        rw [if_neg Bool.false_ne_true] at hR
        split at hR <;> exact ⟨(Prod.mk.inj hR).1.symm, (Prod.mk.inj hR).2.symm⟩)
      clear hR hrt
      go_enter Tryz.func27, Tryz.ntmps27
      go_wp2_with (first | ((with_reducible refine gate_dst (N := 2) rfl ?_); refine box_event ?hg (N := 2) ?hd (cs := #[.slice A0 l.length c0, .int .i64 root]) (t := 24) ?hr ?_; (case hd => rfl); (case hg => rfl); (case hr => first | (go_simp; done) | (go_simp; rfl)); intro gb hg w1 hgb hb1; have HG1 := Lib.hid hgb; have HB1 := Lib.hid hb1; clear hgb hb1 hg; have x0 := (blk_cell HG1.out 0).trans rfl; have x1 := (blk_cell HG1.out 1).trans rfl) | (go_at_call 49; refine (grommetref16_Format.calls 700 A1 c1 k tx fe _ (Kd.C_below H2.out HB1.out) hc1 (hG.below HB1.out) HFM.out).mono ?_; rintro e w2 ⟨rfl, hb⟩; have HG2 := Lib.hid ((hb.block _ (blk_lt HG1.out)).trans HG1.out); have HB2 := Lib.hid (HB1.out.trans (hb.mono HB1.out.size)); clear hb HG1 HB1 x0 x1; have x0 := (blk_cell HG2.out 0).trans rfl; have x1 := (blk_cell HG2.out 1).trans rfl) | (go_at_call 50; refine (grommetref12_Right.calls K _ _ _ _ _ _ (Kd.C_below HR.out HB2.out) hc0 (hG.below HB2.out) HRT.out).mono ?_; rintro e w3 ⟨rfl, hb⟩; have HG3 := Lib.hid ((hb.block _ (blk_lt HG2.out)).trans HG2.out); have HB3 := Lib.hid (HB2.out.trans (hb.mono HB2.out.size)); clear hb HG2 HB2 x0 x1; have x0 := (blk_cell HG3.out 0).trans rfl; have x1 := (blk_cell HG3.out 1).trans rfl))
      go_ret2
      exact ⟨by rw [HF.out.1, HF.out.2]; first | done | rfl, HB3.out⟩
    | true =>
      rw [if_pos rfl] at hR
      by_cases he : fe = 0
      · rw [if_pos he] at hR
        obtain ⟨hk64, hok⟩ := HOK.out he
        have q0 : (fe != 0) = false := by rw [he]; rfl
        have HV := Lib.hid (show walkG l ((k.drop 0).map conv) root = (r1, r2) from hR)
        have HO := Lib.hid hok
        have HRG := Lib.hid ((right_iff l root HS.out).1 hrt)
        have HRB := Lib.hid hrt
        clear hR he hok hrt
        go_enter Tryz.func27, Tryz.ntmps27
        go_wp2_with (first | ((with_reducible refine gate_dst (N := 2) rfl ?_); refine box_event ?hg (N := 2) ?hd (cs := #[.slice A0 l.length c0, .int .i64 root]) (t := 24) ?hr ?_; (case hd => rfl); (case hg => rfl); (case hr => first | (go_simp; done) | (go_simp; rfl)); intro gb hg w1 hgb hb1; have HG1 := Lib.hid hgb; have HB1 := Lib.hid hb1; clear hgb hb1 hg; have x0 := (blk_cell HG1.out 0).trans rfl; have x1 := (blk_cell HG1.out 1).trans rfl) | (go_at_call 49; refine (grommetref16_Format.calls 700 A1 c1 k tx fe _ (Kd.C_below H2.out HB1.out) hc1 (hG.below HB1.out) HFM.out).mono ?_; rintro e w2 ⟨rfl, hb⟩; have HG2 := Lib.hid ((hb.block _ (blk_lt HG1.out)).trans HG1.out); have HB2 := Lib.hid (HB1.out.trans (hb.mono HB1.out.size)); clear hb HG1 HB1 x0 x1; have x0 := (blk_cell HG2.out 0).trans rfl; have x1 := (blk_cell HG2.out 1).trans rfl) | (go_at_call 50; refine (grommetref12_Right.calls K _ _ _ _ _ _ (Kd.C_below HR.out HB2.out) hc0 (hG.below HB2.out) HRT.out).mono ?_; rintro e w3 ⟨rfl, hb⟩; have HG3 := Lib.hid ((hb.block _ (blk_lt HG2.out)).trans HG2.out); have HB3 := Lib.hid (HB2.out.trans (hb.mono HB2.out.size)); clear hb HG2 HB2 x0 x1; have x0 := (blk_cell HG3.out 0).trans rfl; have x1 := (blk_cell HG3.out 1).trans rfl))
        clear x0 x1 q0
        go_loopw [8, 9] (fun va vi wr => ∃ (i : Nat) (at_ : Int), va = .int .i64 at_ ∧ vi = .int .i64 i ∧ i ≤ k.length ∧ Hid (walkG l ((k.drop i).map conv) at_ = (r1, r2)) ∧ Hid (RightG l at_) ∧ Hid (wr.heap[gb]? = some (.cells #[.slice A0 l.length c0, .int .i64 root] 24 (0, 0))) ∧ Hid (Below w.heap.size w wr)) (fun _ vi _ => k.length - (intOf vi).toNat)
        case atStart => exact ⟨0, root, rfl, rfl, by omega, HV, HRG, HG3, HB3⟩
        case round =>
          clear HV HRG HG3 HB3
          obtain ⟨i, at_, rfl, rfl, hi, hst, HRA, HGR, HBR⟩ := hrel
          by_cases hlt : i < k.length
          · have hc : decide ((i : Int) < (k.length : Int)) = true := decide_eq_true (by omega)
            have HL := Lib.hid hlt
            obtain ⟨sd, eA1, z0, z1, z2⟩ := at_T58 (Kd.C_below H2.out HBR.out) (i : Int) (by omega) (by omega)
            subst eA1
            rw [rd_srf' k i hlt, Int.toNat_natCast] at z0 z1 z2
            have hst2 := hst.out
            rw [walk_drop l k i hlt at_] at hst2
            have hox := HO.out _ (List.getElem_mem hlt)
            have hst3 := fun (h0 : (Graphs.stepG l at_ (conv k[i])).2 = 0) => stepG_right HRA.out (conv k[i]) (fun hx => okStep_pos _ hox hx) h0
            generalize k[i] = x at *
            obtain ⟨xk, xi, xa⟩ := x
            dsimp only at z0 z1 z2
            have j0 := HRA.out.r0
            have j1 := HRA.out.r1
            have hnode := HRA.out.node (rd_mem l at_ j0 j1)
            obtain ⟨bd, A2, c2, eA, y0, y1, y2, hc2, hC⟩ := at_T45 (Kd.C_below HR.out HBR.out) at_ j0 j1
            subst eA
            have hzk := (sizes_iff HS.out _ (rd_mem l at_ j0 j1)).2
            obtain ⟨nd, hnd⟩ : ∃ n, rd_T45 l at_ = n := ⟨_, rfl⟩
            have hstepI := stepG_idx l at_ (conv ⟨xk, xi, xa⟩)
            have hstepK := stepG_key l at_ (conv ⟨xk, xi, xa⟩)
            rw [hnd] at y0 y1 y2 hc2 hC hzk hstepI hstepK
            obtain ⟨kd, tt, kids⟩ := nd
            dsimp only at y0 y1 y2 hc2 hC hzk hstepI hstepK
            have HC := Lib.hid hC
            have x0 := (blk_cell HGR.out 0).trans rfl
            have x1 := (blk_cell HGR.out 1).trans rfl
            have p1 : (0 ≤ (i : Int)) = True := eq_true (by omega)
            have p2 : ((i : Int) < (k.length : Int)) = True := eq_true (by omega)
            have p3 : (0 ≤ at_) = True := eq_true j0
            have p4 : (at_ < (l.length : Int)) = True := eq_true j1
            have hb8 : Below wr.heap.size wr (wr.alloc (.cells #[.int .i64 kd, .string tt, .slice A2 kids.length c2] 45 (0, 0))) := below_alloc (Below.refl _ _) _
            have hk8 : (wr.alloc (.cells #[.int .i64 kd, .string tt, .slice A2 kids.length c2] 45 (0, 0))).heap[wr.heap.size]? = some (.cells #[.int .i64 kd, .string tt, .slice A2 kids.length c2] 45 (0, 0)) := blk_new wr _
            have u0 := (blk_cell ((hb8.block gb (blk_lt HGR.out)).trans HGR.out) 0).trans rfl
            have u1 := (blk_cell ((hb8.block gb (blk_lt HGR.out)).trans HGR.out) 1).trans rfl
            have v0 := (hb8.cell (World.block_lt_of_cell? wr _ z0)).trans z0
            have v1 := (hb8.cell (World.block_lt_of_cell? wr _ z1)).trans z1
            have v2 := (hb8.cell (World.block_lt_of_cell? wr _ z2)).trans z2
            have n0 := (blk_cell hk8 0).trans rfl
            have n1 := (blk_cell hk8 1).trans rfl
            have n2 := (blk_cell hk8 2).trans rfl
            have HG8 := Lib.hid ((hb8.block gb (blk_lt HGR.out)).trans HGR.out)
            have HB8 := Lib.hid (HBR.out.trans (hb8.mono HBR.out.size))
            have HBW := Lib.hid hb8
            clear hst hb8 hk8 HGR HBR
            cases xa with
            | true =>
              have hs1 := hstepI rfl
              clear hstepI hstepK
              unfold okStep at hox
              rw [show (conv ⟨xk, xi, true⟩).f2 = true from rfl] at hox
              simp at hox
              have hx0 : 0 ≤ xi := hox.1
              by_cases k5 : kd = 5
              · have q5 : (kd != 5) = false := by rw [k5]; rfl
                rw [if_pos k5] at hs1
                by_cases hx : xi < (kids.length : Int)
                · have hx2 : (conv ⟨xk, xi, true⟩).f1 < (kids.length : Int) := hx
                  rw [if_pos hx2] at hs1
                  rw [hs1] at hst2 hst3
                  have HV := Lib.hid (show walkG l ((k.drop (i + 1)).map conv) (rd kids xi) = (r1, r2) by rw [if_pos rfl] at hst2; exact hst2)
                  have HRA2 := Lib.hid (show RightG l (rd kids xi) from hst3 rfl)
                  have q6 : decide ((kids.length : Int) ≤ xi) = false := decide_eq_false (by omega)
                  obtain ⟨cd, eA2, hx3⟩ := Kd.at_int (Kd.C_below HC.out HBW.out) xi hx0 hx
                  subst eA2
                  have p5 : (0 ≤ xi) = True := eq_true hx0
                  have p6 : (xi < (kids.length : Int)) = True := eq_true hx
                  clear hs1 hst2 hst3 hox k5 hnode
                  go_wp2
                  go_quiet (fail)
                  go_wp2
                  go_quiet (fail)
                  go_wp2
                  go_roundw
                  case rel => have := HL.out; exact ⟨i + 1, _, rfl, by go_num, by omega, HV, HRA2, HG8, Lib.hid (pw_below_drewN HB8.out _)⟩
                  case measure => have := HL.out; simp [intOf]; omega
                · have hx2 : ¬ (conv ⟨xk, xi, true⟩).f1 < (kids.length : Int) := hx
                  rw [if_neg hx2] at hs1
                  rw [hs1] at hst2
                  have HF : Hid (r1 = 0 ∧ r2 = 6) := Lib.hid ⟨(Prod.mk.inj hst2).1.symm, (Prod.mk.inj hst2).2.symm⟩
                  have q6 : decide ((kids.length : Int) ≤ xi) = true := decide_eq_true (by omega)
                  clear hs1 hst2 hst3 hox k5 hnode
                  go_wp2
                  go_quiet (fail)
                  go_wp2
                  go_ret2
                  exact ⟨by rw [HF.out.1, HF.out.2]; first | done | rfl, pw_below_drewN HB8.out _⟩
              · have q5 : (kd != 5) = true := bne_iff_ne.2 k5
                rw [if_neg k5] at hs1
                rw [hs1] at hst2
                have HF : Hid (r1 = 0 ∧ r2 = 17) := Lib.hid ⟨(Prod.mk.inj hst2).1.symm, (Prod.mk.inj hst2).2.symm⟩
                clear hs1 hst2 hst3 hox k5 hnode
                go_wp2
                go_ret2
                exact ⟨by rw [HF.out.1, HF.out.2]; first | done | rfl, HB8.out⟩
            | false =>
              have hs1 := hstepK rfl
              clear hstepI hstepK
              rw [show (conv ⟨xk, xi, false⟩).f0 = xk from rfl] at hs1
              by_cases k6 : kd = 6
              · have q5 : (kd != 6) = false := by rw [k6]; rfl
                rw [if_pos k6] at hs1
                obtain ⟨fr, hfr⟩ : ∃ p, findG l at_ (4, xk) = p := ⟨_, rfl⟩
                have HFD := Lib.hid (show grommetref13_Find.f l root at_ 4 xk = some fr by unfold grommetref13_Find.f; rw [if_pos HS.out, ← hfr]; exact congrArg some (findB_eq l root at_ (4, xk) HRA.out HRB.out))
                rw [hfr] at hs1
                obtain ⟨ra, rb⟩ := fr
                have HNG := Lib.hid (Nat.ne_of_lt (blk_lt HG8.out))
                clear hfr hox hnode
                cases rb with
                | true =>
                  rw [if_pos rfl] at hs1
                  rw [hs1] at hst2 hst3
                  have HV := Lib.hid (show walkG l ((k.drop (i + 1)).map conv) ra = (r1, r2) by rw [if_pos rfl] at hst2; exact hst2)
                  have HRA2 := Lib.hid (show RightG l ra from hst3 rfl)
                  clear hs1 hst2 hst3 k6
                  go_wp2
                  go_quiet (fail)
                  go_wp2
                  go_region_held3 (fun W' => W'.cell? ⟨gb, 0, none⟩ = some (.slice (some bd) l.length c0) ∧ W'.cell? ⟨gb, 1, none⟩ = some (.int .i64 root) ∧ W'.cell? (sd.add (i * 3)) = some (.string xk))
                    (first | exact ⟨u0, u1, v0⟩ | exact ⟨f0, f1, f2⟩)
                    (first | (go_at_call 51; refine (grommetref13_Find.calls _ c0 l root at_ 4 xk ra true _ (Kd.C_below HR.out (below_drew1 (pw_below_drewN HB8.out _))) hc0 (hG.below (below_drew1 (pw_below_drewN HB8.out _))) HFD.out).mono ?_; rintro e w9 ⟨rfl, hb9⟩; have f0 := (hb9.cell (World.block_lt_of_cell? (wr.alloc _) _ u0)).trans u0; have f1 := (hb9.cell (World.block_lt_of_cell? (wr.alloc _) _ u1)).trans u1; have f2 := (hb9.cell (World.block_lt_of_cell? (wr.alloc _) _ v0)).trans v0; have HG9 := Lib.hid ((hb9.block gb (blk_lt HG8.out)).trans HG8.out); have HB9 := Lib.hid ((below_drew1 (pw_below_drewN HB8.out _)).trans (hb9.mono HB8.out.size))))
                  all_goals
                    clear x0 x1 y0 y1 y2 z0 z1 z2 u0 u1 v0 v1 v2 n0 n1 n2
                    go_wp2
                    go_roundw
                    case rel => have := HL.out; exact ⟨i + 1, ra, rfl, by go_num, by omega, HV, HRA2, HG9, HB9⟩
                    case measure => have := HL.out; simp [intOf]; omega
                | false =>
                  rw [if_neg Bool.false_ne_true] at hs1
                  rw [hs1] at hst2
                  have HF : Hid (r1 = 0 ∧ r2 = 6) := Lib.hid ⟨(Prod.mk.inj hst2).1.symm, (Prod.mk.inj hst2).2.symm⟩
                  clear hs1 hst2 hst3 k6
                  go_wp2
                  go_quiet (fail)
                  go_wp2
                  go_region_held3 (fun W' => W'.cell? ⟨gb, 0, none⟩ = some (.slice (some bd) l.length c0) ∧ W'.cell? ⟨gb, 1, none⟩ = some (.int .i64 root) ∧ W'.cell? (sd.add (i * 3)) = some (.string xk))
                    (first | exact ⟨u0, u1, v0⟩ | exact ⟨f0, f1, f2⟩)
                    (first | (go_at_call 51; refine (grommetref13_Find.calls _ c0 l root at_ 4 xk ra false _ (Kd.C_below HR.out (below_drew1 (pw_below_drewN HB8.out _))) hc0 (hG.below (below_drew1 (pw_below_drewN HB8.out _))) HFD.out).mono ?_; rintro e w9 ⟨rfl, hb9⟩; have f0 := (hb9.cell (World.block_lt_of_cell? (wr.alloc _) _ u0)).trans u0; have f1 := (hb9.cell (World.block_lt_of_cell? (wr.alloc _) _ u1)).trans u1; have f2 := (hb9.cell (World.block_lt_of_cell? (wr.alloc _) _ v0)).trans v0; have HG9 := Lib.hid ((hb9.block gb (blk_lt HG8.out)).trans HG8.out); have HB9 := Lib.hid ((below_drew1 (pw_below_drewN HB8.out _)).trans (hb9.mono HB8.out.size))))
                  all_goals
                    clear x0 x1 y0 y1 y2 z0 z1 z2 u0 u1 v0 v1 v2 n0 n1 n2
                    go_wp2
                    go_ret2
                    exact ⟨by rw [HF.out.1, HF.out.2]; first | done | rfl, HB9.out⟩
              · have q5 : (kd != 6) = true := bne_iff_ne.2 k6
                rw [if_neg k6] at hs1
                rw [hs1] at hst2
                have HF : Hid (r1 = 0 ∧ r2 = 17) := Lib.hid ⟨(Prod.mk.inj hst2).1.symm, (Prod.mk.inj hst2).2.symm⟩
                clear hs1 hst2 hst3 hox k6 hnode
                go_wp2
                go_ret2
                exact ⟨by rw [HF.out.1, HF.out.2]; first | done | rfl, HB8.out⟩
          · have hc : decide ((i : Int) < (k.length : Int)) = false := decide_eq_false (by omega)
            have HF : Hid (r1 = at_ ∧ r2 = 0) := Lib.hid (by
              have h := hst.out
              rw [List.drop_of_length_le (by omega)] at h
              exact ⟨(Prod.mk.inj h).1.symm, (Prod.mk.inj h).2.symm⟩)
            clear hst
            go_wp2
            go_ret2
            exact ⟨by rw [HF.out.1, HF.out.2]; first | done | rfl, HBR.out⟩
      · rw [if_neg he] at hR
        have q0 : (fe != 0) = true := bne_iff_ne.2 he
        have HF : Hid (r1 = 0 ∧ r2 = 1) := Lib.hid ⟨(Prod.mk.inj hR).1.symm, (Prod.mk.inj hR).2.symm⟩
        clear hR he hrt
        go_enter Tryz.func27, Tryz.ntmps27
        go_wp2_with (first | ((with_reducible refine gate_dst (N := 2) rfl ?_); refine box_event ?hg (N := 2) ?hd (cs := #[.slice A0 l.length c0, .int .i64 root]) (t := 24) ?hr ?_; (case hd => rfl); (case hg => rfl); (case hr => first | (go_simp; done) | (go_simp; rfl)); intro gb hg w1 hgb hb1; have HG1 := Lib.hid hgb; have HB1 := Lib.hid hb1; clear hgb hb1 hg; have x0 := (blk_cell HG1.out 0).trans rfl; have x1 := (blk_cell HG1.out 1).trans rfl) | (go_at_call 49; refine (grommetref16_Format.calls 700 A1 c1 k tx fe _ (Kd.C_below H2.out HB1.out) hc1 (hG.below HB1.out) HFM.out).mono ?_; rintro e w2 ⟨rfl, hb⟩; have HG2 := Lib.hid ((hb.block _ (blk_lt HG1.out)).trans HG1.out); have HB2 := Lib.hid (HB1.out.trans (hb.mono HB1.out.size)); clear hb HG1 HB1 x0 x1; have x0 := (blk_cell HG2.out 0).trans rfl; have x1 := (blk_cell HG2.out 1).trans rfl) | (go_at_call 50; refine (grommetref12_Right.calls K _ _ _ _ _ _ (Kd.C_below HR.out HB2.out) hc0 (hG.below HB2.out) HRT.out).mono ?_; rintro e w3 ⟨rfl, hb⟩; have HG3 := Lib.hid ((hb.block _ (blk_lt HG2.out)).trans HG2.out); have HB3 := Lib.hid (HB2.out.trans (hb.mono HB2.out.size)); clear hb HG2 HB2 x0 x1; have x0 := (blk_cell HG3.out 0).trans rfl; have x1 := (blk_cell HG3.out 1).trans rfl))
        go_ret2
        exact ⟨by rw [HF.out.1, HF.out.2]; first | done | rfl, HB3.out⟩
  · rw [if_neg hz1] at h; cases h
end Go.Proofs.YtiooacmplmcphaaGreatDoor.Plug
namespace Go.Proofs.YtiooacmplmcphaaGreatDoor.PX
open RowKit YtiooacmplmcphaaGreatDoorW.PrintWords YtiooacmplmcphaaGreatDoorW.PrintLast YtiooacmplmcphaaGreatDoorW.PrintMore YtiooacmplmcphaaGreatDoor YtiooacmplmcphaaGreatDoor.Plug
attribute [local go_sem] max2_int min2_int max_two min_two max_three min_three max_four min_four   -- for this text's walks alone
set_option linter.unusedVariables false
set_option linter.unusedSimpArgs false
def grommetlaw16_PathGets.j0 : Nat → List (S58) → Bool → List (S45) → Int → Option (Bool)
  | 0, _, _, _, _ => none
  | k + 1, x1, x14, x102000, x102001 => if x14 = true then ((grommetlaw16_alive.f).bind fun t104 => (some t104)) else ((grommetlaw16_theirs.f k x1).bind fun t105 => ((path_Get.f k x102000 x102001 t105).bind fun bt108 => ((grommetref16_Get.f x102000 x102001 x1).bind fun bt110 => (if bt108.1 = bt110.1 then (if bt108.2 = bt110.2 then ((grommetlaw16_alive.f).bind fun t112 => (some t112)) else (some false)) else (some false)))))
def grommetlaw16_PathGets.f (k : Nat) (l0_0 : List (S45)) (a0_1 : Int) (l1 : List (S58)) : Option (Bool) := (grommetlaw16_large.f k l0_0 a0_1).bind fun t102 => (if t102 = true then (grommetlaw16_PathGets.j0 k l1 true l0_0 a0_1) else ((grommetlaw16_long.f k l1).bind fun t103 => (grommetlaw16_PathGets.j0 k l1 t103 l0_0 a0_1)))
def grommetlaw16_PathGets.T3 : Bool × List (List Nat × List Nat) := (true, [([], []), ([], []), ([1], [1]), ([0, 2, 2], [0, 2]), ([3], [3]), ([4], [4]), ([4], [4]), ([5, 3, 0, 1, 2, 3, 4, 5], [5]), ([6, 7, 0, 1, 2, 3, 4, 5, 6, 7], [6])])
def grommetlaw16_PathGets.B3 : List Nat := [0, 0, 2, 7, 15, 31, 31, 63, 255]
theorem grommetlaw16_PathGets.tab3 : rtab .any (opsOf Tryz.f6 3) = grommetlaw16_PathGets.T3 := by kernel_rfl
theorem grommetlaw16_PathGets.bits3 : waitsOk grommetlaw16_PathGets.T3.2 grommetlaw16_PathGets.B3 = true := by kernel_rfl
theorem qba0_ {P : Prop} (h_ : P := by first | ((repeat (first | (with_reducible first | exact HB.out | apply below_alloc | apply pw_below_drewN | apply below_drew1 | (refine Glob.below_set ?_ (by assumption) _ _ _)) | exact HB.out)); done) | (refine Drawn0.below ?_; repeat (first | exact Drawn0.refl _ | assumption | apply Drawn0.step))) : P := h_
theorem qba1_ {P : Prop} (h_ : P := by repeat (first | (with_reducible first | exact HB.out | apply below_alloc | apply pw_below_drewN | apply below_drew1 | refine below_set ?_ GE101.out) | exact HB.out)) : P := h_
theorem qba2_ {P : Prop} (h_ : P := by (with_reducible repeat (first | refine blk_drewN ?_ _ | refine blk_drew ?_ | refine blk_alloc ?_ _)); exact BK101.out) : P := h_
theorem qba3_ {P : Prop} (h_ : P := by (try simp only [List.map_toArray, List.map_cons, List.map_nil]); first | done | rfl | (simp only [List.length_drop, List.length_take]; rfl)) : P := h_
theorem qba4_ {P : Prop} (h_ : P := by (with_reducible repeat (first | apply Kd.R_alloc | apply Kd.R_drewN | apply Kd.R_drew)); exact HO107.out) : P := h_
theorem qba5_ {P : Prop} (h_ : P := by first | rfl | (simp [errW_none, errW_some] <;> rfl) | (simp [*, errW_none, errW_some] <;> rfl)) : P := h_
theorem qba6_ {P : Prop} (h_ : P := by repeat (first | (with_reducible first | exact HB.out | apply below_alloc | apply pw_below_drewN | apply below_drew1) | exact HB.out)) : P := h_
theorem qba7_ {P : Prop} (h_ : P := by intro w'; go_simp; with_reducible rfl) : P := h_
theorem qba8_ {P : Prop} (h_ : P := by simp only [Act.put, List.setIfInBounds_toArray, List.set_cons_zero, List.set_cons_succ, i64_w, i32_w]; rfl) : P := h_
theorem qba9_ {P : Prop} (h_ : P := by rintro w' ⟨s0, s1⟩; go_simp; with_reducible rfl) : P := h_
set_option maxHeartbeats 8000000 in
set_option maxRecDepth 100000 in
theorem grommetlaw16_PathGets.calls (k : Nat) (A0_0 : Option Addr) (c0_0 : Nat) (l0_0 : List (S45)) (a0_1 : Int) (A1 : Option Addr) (c1 : Nat) (l1 : List (S58)) (r : Bool) (w : World) (hr0_0 : Kd.C k45 w A0_0 l0_0.length l0_0) (hc0_0 : l0_0.length ≤ c0_0) (hr1 : Kd.C k58 w A1 l1.length l1) (hc1 : l1.length ≤ c1) (hG : Glob.G w) (h : grommetlaw16_PathGets.f k l0_0 a0_1 l1 = some r) :
  Calls Tryz.prog 6 #[.agg #[.slice A0_0 l0_0.length c0_0, .int .i64 a0_1], .slice A1 l1.length c1] w fun e w' => e = .returned (.bool r) ∧ Below w.heap.size w w' := by
 have hu24 := Tryz.underlying24
 have HR0_0 := Aside0.mk hr0_0
 have HC0_0 := Aside0.mk hc0_0
 clear hr0_0 hc0_0
 have HR1 := Aside0.mk hr1
 have HC1 := Aside0.mk hc1
 clear hr1 hc1
 have HB := Aside0.mk (Below.refl w.heap.size w)
 have H : ((grommetlaw16_large.f k l0_0 a0_1).bind fun t102 => (if t102 = true then (grommetlaw16_PathGets.j0 k l1 true l0_0 a0_1) else ((grommetlaw16_long.f k l1).bind fun t103 => (grommetlaw16_PathGets.j0 k l1 t103 l0_0 a0_1)))) = some r := h
 clear h
 have HC3 := Aside0.mk H
 clear H
 go_enter Tryz.func6, Tryz.ntmps6
 go_upto_region 1 with (first | ((with_reducible refine gate_dst (N := 2) rfl ?_); refine box_event ?hg (N := 2) ?hd (cs := #[.slice A0_0 l0_0.length c0_0, .int .i64 a0_1]) (t := 24) ?hr ?_; (case hd => rfl); (case hg => rfl); (case hr => first | (go_simp; done) | (go_simp; rfl)); intro gb101 hg w4 hbox hb; have n0_ := Aside0.mk (below_step (qba6_) hb); have n1_ := Aside0.mk (hbox); have n2_ := Aside0.mk ((by rw [hg]; exact (below_size (qba6_)) : w.heap.size ≤ gb101)); have n3_ := Aside0.mk ((by rw [hg]; exact (below_size (qba6_)) : w.heap.size ≤ gb101)); clear HB; have HB := n0_; have BK101 := n1_; have GW101 := n2_; have GE101 := n3_; clear n0_ n1_ n2_ n3_; clear hb hbox hg))
 (try simp only [Act.put, List.setIfInBounds_toArray, List.set_cons_zero, List.set_cons_succ])
 go_cut [14] (fun v14 wc => ∃ (kq : Nat) (x14_2 : Bool), v14 = .bool x14_2 ∧ Aside0 (grommetlaw16_PathGets.j0 kq l1 x14_2 l0_0 a0_1 = some r) ∧ Aside0 (kq ≤ k) ∧ Aside0 (wc.heap[gb101]? = some (.cells #[(.slice A0_0 l0_0.length c0_0), .int .i64 a0_1] 24 (0, 0))) ∧ Aside0 (Below w.heap.size w wc))
 case first =>
  have H := HC3.out
  clear HC3
  replace H := Option.bind_eq_some_iff.mp H
  obtain ⟨t102, A50, H⟩ := H
  replace H : (if t102 = true then (grommetlaw16_PathGets.j0 k l1 true l0_0 a0_1) else ((grommetlaw16_long.f k l1).bind fun t103 => (grommetlaw16_PathGets.j0 k l1 t103 l0_0 a0_1))) = some r := H
  have A5 := Aside0.mk A50
  clear A50
  by_cases c6 : t102 = true
  ·
   subst c6
   have H1 : (grommetlaw16_PathGets.j0 k l1 true l0_0 a0_1) = some r := by rw [if_pos rfl] at H; exact H
   clear H
   have H := H1
   clear H1
   have H' := Aside0.mk H
   clear H
   have hcz7_0 : w4.cell? ⟨gb101, 0, none⟩ = some (.slice A0_0 l0_0.length c0_0) := (blk_cell BK101.out 0).trans rfl
   have hcz7_1 : w4.cell? ⟨gb101, 1, none⟩ = some (.int .i64 a0_1) := (blk_cell BK101.out 1).trans rfl
   have hfz7_0 := blk_frozen BK101.out 0
   have hfz7_1 := blk_frozen BK101.out 1
   go_wp2_with (first | ((with_reducible refine gate_callee (f := 22) rfl ?_); refine goesL_ (some 10) rfl rfl Tryz.func22 (by kernel_rfl) rfl #[.agg #[.slice A0_0 l0_0.length c0_0, .int .i64 a0_1]] rfl (qba3_) ?_; (with_reducible refine (grommetlaw16_large.calls k _ _ l0_0 a0_1 true _ ?side1 ?side2 (hG.below (qba0_)) A5.out).mono ?_); (case side1 => repeat (first | exact (Kd.C_below HR0_0.out HB.out) | (with_reducible refine Kd.C_alloc ?_ _) | (with_reducible refine Kd.C_drewN ?_ _) | (with_reducible refine Kd.C_drew ?_))); (case side2 => exact HC0_0.out); rintro e w8 ⟨rfl, hb⟩; refine ⟨_, rfl, ?_⟩; have n0_ := Aside0.mk (blk_below (g := gb101) (o := .cells #[.slice A0_0 l0_0.length c0_0, .int .i64 a0_1] 24 (0, 0)) (qba2_) hb); have n1_ := Aside0.mk (below_step (qba1_) hb); clear BK101; clear HB; have BK101 := n0_; have HB := n1_; clear n0_ n1_; (try clear hb)))
   go_meet
   case rel => exact ⟨_, (true), (by first | rfl | (simp; done) | (simp [*]; done)), H', ⟨by first | omega | exact Nat.le_refl _⟩, ⟨qba2_⟩, ⟨qba1_⟩⟩
  replace c6 := Bool.eq_false_iff.mpr c6
  subst c6
  have H1 : ((grommetlaw16_long.f k l1).bind fun t103 => (grommetlaw16_PathGets.j0 k l1 t103 l0_0 a0_1)) = some r := by rw [if_neg (show ¬ (false = true) by decide)] at H; exact H
  clear H
  have H := H1
  clear H1
  replace H := Option.bind_eq_some_iff.mp H
  obtain ⟨t103, A90, H⟩ := H
  replace H : (grommetlaw16_PathGets.j0 k l1 t103 l0_0 a0_1) = some r := H
  have A9 := Aside0.mk A90
  clear A90
  have H' := Aside0.mk H
  clear H
  have hcz10_0 : w4.cell? ⟨gb101, 0, none⟩ = some (.slice A0_0 l0_0.length c0_0) := (blk_cell BK101.out 0).trans rfl
  have hcz10_1 : w4.cell? ⟨gb101, 1, none⟩ = some (.int .i64 a0_1) := (blk_cell BK101.out 1).trans rfl
  have hfz10_0 := blk_frozen BK101.out 0
  have hfz10_1 := blk_frozen BK101.out 1
  go_wp2_with (first | ((with_reducible refine gate_callee (f := 22) rfl ?_); refine goesL_ (some 10) rfl rfl Tryz.func22 (by kernel_rfl) rfl #[.agg #[.slice A0_0 l0_0.length c0_0, .int .i64 a0_1]] rfl (qba3_) ?_; (with_reducible refine (grommetlaw16_large.calls k _ _ l0_0 a0_1 false _ ?side1 ?side2 (hG.below (qba0_)) A5.out).mono ?_); (case side1 => repeat (first | exact (Kd.C_below HR0_0.out HB.out) | (with_reducible refine Kd.C_alloc ?_ _) | (with_reducible refine Kd.C_drewN ?_ _) | (with_reducible refine Kd.C_drew ?_))); (case side2 => exact HC0_0.out); rintro e w11 ⟨rfl, hb⟩; refine ⟨_, rfl, ?_⟩; have n0_ := Aside0.mk (blk_below (g := gb101) (o := .cells #[.slice A0_0 l0_0.length c0_0, .int .i64 a0_1] 24 (0, 0)) (qba2_) hb); have n1_ := Aside0.mk (below_step (qba1_) hb); clear BK101; clear HB; have BK101 := n0_; have HB := n1_; clear n0_ n1_; (try clear hb)) | (go_at_call 23; (with_reducible refine (grommetlaw16_long.calls k _ _ l1 t103 _ ?side1 ?side2 (hG.below (qba0_)) A9.out).mono ?_); (case side1 => repeat (first | exact (Kd.C_below HR1.out HB.out) | (with_reducible refine Kd.C_alloc ?_ _) | (with_reducible refine Kd.C_drewN ?_ _) | (with_reducible refine Kd.C_drew ?_))); (case side2 => exact HC1.out); rintro e w12 ⟨rfl, hb⟩; have n0_ := Aside0.mk (blk_below (g := gb101) (o := .cells #[.slice A0_0 l0_0.length c0_0, .int .i64 a0_1] 24 (0, 0)) (qba2_) hb); have n1_ := Aside0.mk (below_step (qba1_) hb); clear BK101; clear HB; have BK101 := n0_; have HB := n1_; clear n0_ n1_; (try clear hb)))
  go_meet
  case rel => exact ⟨_, (t103), (by first | rfl | (simp; done) | (simp [*]; done)), H', ⟨by first | omega | exact Nat.le_refl _⟩, ⟨qba2_⟩, ⟨qba1_⟩⟩
 case rest =>
  clear HC3
  try clear c1
  try clear c2
  try clear p2
  try clear c6
  try clear hcz10_0
  try clear hcz10_1
  try clear hcz7_0
  try clear hcz7_1
  try clear hfz10_0
  try clear hfz10_1
  try clear hfz7_0
  try clear hfz7_1
  obtain ⟨kq, x14_2, rfl, HA, HJ2, BK101, HB⟩ := hcut
  cases kq with
  | zero => exact absurd HA.out (by simp [grommetlaw16_PathGets.j0])
  | succ kj2 =>
   have H := HA.out
   clear HA
   simp only [grommetlaw16_PathGets.j0] at H
   by_cases c13 : x14_2 = true
   ·
    subst c13
    have H1 : ((grommetlaw16_alive.f).bind fun t104 => (some t104)) = some r := by rw [if_pos rfl] at H; exact H
    clear H
    have H := H1
    clear H1
    replace H := Option.bind_eq_some_iff.mp H
    obtain ⟨t104, A140, H⟩ := H
    replace H : (some t104) = some r := H
    have A14 := Aside0.mk A140
    clear A140
    obtain rfl := Option.some.inj H
    go_wp2_with (first | ((with_reducible refine gate_callee (f := 24) rfl ?_); refine goesL_ (some 15) rfl rfl Tryz.func24 (by kernel_rfl) rfl #[] rfl (qba3_) ?_; (with_reducible refine (grommetlaw16_alive.calls  t104 _ (hG.below (qba0_)) A14.out).mono ?_); rintro e w15 ⟨rfl, hb⟩; refine ⟨_, rfl, ?_⟩; have n0_ := Aside0.mk (blk_below (g := gb101) (o := .cells #[.slice A0_0 l0_0.length c0_0, .int .i64 a0_1] 24 (0, 0)) (qba2_) hb); have n1_ := Aside0.mk (below_step (qba1_) hb); clear BK101; clear HB; have BK101 := n0_; have HB := n1_; clear n0_ n1_; (try clear hb)))
    go_ret
    exact ⟨qba5_, qba1_⟩
   replace c13 := Bool.eq_false_iff.mpr c13
   subst c13
   have H1 : ((grommetlaw16_theirs.f kj2 l1).bind fun t105 => ((path_Get.f kj2 l0_0 a0_1 t105).bind fun bt108 => ((grommetref16_Get.f l0_0 a0_1 l1).bind fun bt110 => (if bt108.1 = bt110.1 then (if bt108.2 = bt110.2 then ((grommetlaw16_alive.f).bind fun t112 => (some t112)) else (some false)) else (some false))))) = some r := by rw [if_neg (show ¬ (false = true) by decide)] at H; exact H
   clear H
   have H := H1
   clear H1
   replace H := Option.bind_eq_some_iff.mp H
   obtain ⟨t105, A160, H⟩ := H
   replace H : ((path_Get.f kj2 l0_0 a0_1 t105).bind fun bt108 => ((grommetref16_Get.f l0_0 a0_1 l1).bind fun bt110 => (if bt108.1 = bt110.1 then (if bt108.2 = bt110.2 then ((grommetlaw16_alive.f).bind fun t112 => (some t112)) else (some false)) else (some false)))) = some r := H
   have A16 := Aside0.mk A160
   clear A160
   replace H := Option.bind_eq_some_iff.mp H
   obtain ⟨⟨t108, t109⟩, A170, H⟩ := H
   replace H : ((grommetref16_Get.f l0_0 a0_1 l1).bind fun bt110 => (if t108 = bt110.1 then (if t109 = bt110.2 then ((grommetlaw16_alive.f).bind fun t112 => (some t112)) else (some false)) else (some false))) = some r := H
   have A17 := Aside0.mk A170
   clear A170
   replace H := Option.bind_eq_some_iff.mp H
   obtain ⟨⟨t110, t111⟩, A180, H⟩ := H
   replace H : (if t108 = t110 then (if t109 = t111 then ((grommetlaw16_alive.f).bind fun t112 => (some t112)) else (some false)) else (some false)) = some r := H
   have A18 := Aside0.mk A180
   clear A180
   by_cases c19 : t108 = t110
   rotate_left
   ·
    rw [if_neg c19] at H
    have c19b0 : (t108 == t110) = false := beq_eq_false_iff_ne.mpr c19
    have c19b1 : (t108 != t110) = true := bne_iff_ne.mpr c19
    obtain rfl := Option.some.inj H
    try go_wp2
    have n0_ := Aside0.mk (blk_drew BK101.out)
    have n1_ := Aside0.mk (below_drew1 HB.out)
    clear BK101
    clear HB
    have BK101 := n0_
    have HB := n1_
    clear n0_ n1_
    refine start_ (n := 9) (S := fun w' => w'.cell? ⟨gb101, 0, none⟩ = some (.slice A0_0 l0_0.length c0_0) ∧ w'.cell? ⟨gb101, 1, none⟩ = some (.int .i64 a0_1)) (ds := []) #[false, false, false, false, false, false, false, false, false] (by kernel_rfl) rfl rfl ⟨(blk_cell BK101.out 0).trans rfl, (blk_cell BK101.out 1).trans rfl⟩ (fun hHeld => ?_); refine with_tabW grommetlaw16_PathGets.tab3 grommetlaw16_PathGets.bits3 (fun HT_ HW_ => ?_)
    generalize wc.drew = w35 at BK101 HB hHeld ⊢
    refine pure_ (i := 1) (N := some 18) (v := ?_) (a' := ?_) #[false, true, false, false, false, false, false, false, false] rfl rfl (any_of HT_.out (by kernel_rfl)) (fun _ _ _ h => h) (Or.inl ⟨by rfl, ?_⟩) ?_ ?_
    rotate_left
    exact qba7_
    rotate_left
    exact qba8_
    refine take_ (i := 0) (N := some 17) (v := ?_) (a' := ?_) #[true, true, false, false, false, false, false, false, false] rfl rfl (take_ofW HT_.out HW_.out (by kernel_rfl)) (fun _ _ _ h => h) (Or.inl ⟨by rfl, ?_⟩) hHeld ?_ ?_
    rotate_left
    exact qba9_
    rotate_left
    exact qba8_
    refine one_ (i := 2) (N := some 19) #[true, true, true, false, false, false, false, false, false] rfl rfl (one_of HT_.out (by kernel_rfl)) (by decide) (fun K hK => ?_)
    refine goes_ Tryz.func26 (by kernel_rfl) rfl #[.slice A1 l1.length c1] (by rfl) rfl rfl (qba3_) ?_
    with_reducible refine (grommetlaw16_theirs.calls kj2 _ _ l1 t105 _ ?side1 ?side2 (hG.below (qba0_)) A16.out).mono ?_
    (case side1 => repeat (first | exact (Kd.C_below HR1.out HB.out) | (with_reducible refine Kd.C_alloc ?_ _) | (with_reducible refine Kd.C_drewN ?_ _) | (with_reducible refine Kd.C_drew ?_)))
    (case side2 => exact HC1.out)
    rintro e w36 ⟨v106, rfl, ho0, hb⟩
    refine ⟨_, rfl, ?_⟩
    have n0_ := Aside0.mk (Kd.R_lower ho0 (below_size (qba1_)))
    have n1_ := Aside0.mk (blk_below (g := gb101) (o := .cells #[.slice A0_0 l0_0.length c0_0, .int .i64 a0_1] 24 (0, 0)) (qba2_) hb)
    have n2_ := Aside0.mk (below_step (qba1_) hb)
    clear BK101
    clear HB
    have HO107 := n0_
    have BK101 := n1_
    have HB := n2_
    clear n0_ n1_ n2_
    (try clear hb)
    (try clear hb2)
    (try clear hk)
    (try clear hi)
    (try clear ho0)
    obtain ⟨Ao37, co37, eo37⟩ := Kd.R_slice HO107.out
    (first | subst eo37 | (injection eo37 with f1_ f2_ f3_; have f4_ := f1_.symm; have f5_ := f3_.symm; clear f1_ f2_ f3_; subst f4_; subst f5_))
    refine hK.out _ _ ⟨(blk_cell BK101.out 0).trans rfl, (blk_cell BK101.out 1).trans rfl⟩ (fun hHeld => ?_)
    clear hK K
    refine norm_ (a' := ?_) ?_ ?_
    rotate_left
    ·
     show Act.put _ (some 19) _ = _
     simp only [Act.put, List.setIfInBounds_toArray, List.set_cons_zero, List.set_cons_succ, i64_w, i32_w]
     rfl
    refine one_ (i := 3) (N := some 20) #[true, true, true, true, false, false, false, false, false] rfl rfl (one_of HT_.out (by kernel_rfl)) (by decide) (fun K hK => ?_)
    refine goes_ Tryz.func25 (by kernel_rfl) rfl #[.agg #[.slice A0_0 l0_0.length c0_0, .int .i64 a0_1], .slice Ao37 t105.length co37] (by rfl) rfl rfl (qba3_) ?_
    with_reducible refine (path_Get.calls kj2 _ _ l0_0 a0_1 _ _ t105 t108 t109 _ ?side1 ?side2 ?side3 ?side4 (hG.below (qba0_)) A17.out).mono ?_
    (case side1 => repeat (first | exact (Kd.C_below HR0_0.out HB.out) | (with_reducible refine Kd.C_alloc ?_ _) | (with_reducible refine Kd.C_drewN ?_ _) | (with_reducible refine Kd.C_drew ?_)))
    (case side2 => exact HC0_0.out)
    (case side3 => repeat (first | exact (Kd.R_reads' HO107.out).2.2 | (with_reducible refine Kd.C_alloc ?_ _) | (with_reducible refine Kd.C_drewN ?_ _) | (with_reducible refine Kd.C_drew ?_)))
    (case side4 => exact (Kd.R_reads' HO107.out).2.1)
    rintro e w38 ⟨rfl, hb⟩
    refine ⟨_, rfl, ?_⟩
    have n0_ := Aside0.mk (Kd.R_below (qba4_) hb)
    have n1_ := Aside0.mk (blk_below (g := gb101) (o := .cells #[.slice A0_0 l0_0.length c0_0, .int .i64 a0_1] 24 (0, 0)) (qba2_) hb)
    have n2_ := Aside0.mk (below_step (qba1_) hb)
    clear HO107
    clear BK101
    clear HB
    have HO107 := n0_
    have BK101 := n1_
    have HB := n2_
    clear n0_ n1_ n2_
    (try clear hb)
    (try clear hb2)
    (try clear hk)
    (try clear hi)
    refine hK.out _ _ ⟨(blk_cell BK101.out 0).trans rfl, (blk_cell BK101.out 1).trans rfl⟩ (fun hHeld => ?_)
    clear hK K
    refine norm_ (a' := ?_) ?_ ?_
    rotate_left
    ·
     show Act.put _ (some 20) _ = _
     simp only [Act.put, List.setIfInBounds_toArray, List.set_cons_zero, List.set_cons_succ, i64_w, i32_w]
     rfl
    refine pure_ (i := 4) (N := some 16) (v := ?_) (a' := ?_) #[true, true, true, true, true, false, false, false, false] rfl rfl (any_of HT_.out (by kernel_rfl)) (fun _ _ _ h => h) (Or.inl ⟨by rfl, ?_⟩) ?_ ?_
    rotate_left
    exact qba7_
    rotate_left
    exact qba8_
    refine pure_ (i := 5) (N := some 21) (v := ?_) (a' := ?_) #[true, true, true, true, true, true, false, false, false] rfl rfl (any_of HT_.out (by kernel_rfl)) (fun _ _ _ h => h) (Or.inl ⟨by rfl, ?_⟩) ?_ ?_
    rotate_left
    exact qba7_
    rotate_left
    exact qba8_
    refine pure_ (i := 6) (N := some 22) (v := ?_) (a' := ?_) #[true, true, true, true, true, true, true, false, false] rfl rfl (any_of HT_.out (by kernel_rfl)) (fun _ _ _ h => h) (Or.inl ⟨by rfl, ?_⟩) ?_ ?_
    rotate_left
    exact qba7_
    rotate_left
    exact qba8_
    refine pure_ (i := 7) (N := some 5) (v := ?_) (a' := ?_) #[true, true, true, true, true, true, true, true, false] rfl rfl (any_of HT_.out (by kernel_rfl)) (fun _ _ _ h => h) (Or.inl ⟨by rfl, ?_⟩) ?_ ?_
    rotate_left
    exact qba7_
    rotate_left
    exact qba8_
    refine pure_ (i := 8) (N := some 6) (v := ?_) (a' := ?_) #[true, true, true, true, true, true, true, true, true] rfl rfl (any_of HT_.out (by kernel_rfl)) (fun _ _ _ h => h) (Or.inl ⟨by rfl, ?_⟩) ?_ ?_
    rotate_left
    exact qba7_
    rotate_left
    exact qba8_
    refine done_ (done_of HT_.out (by kernel_rfl)) ?_
    have hcz39_0 : w38.cell? ⟨gb101, 0, none⟩ = some (.slice A0_0 l0_0.length c0_0) := (blk_cell BK101.out 0).trans rfl
    have hcz39_1 : w38.cell? ⟨gb101, 1, none⟩ = some (.int .i64 a0_1) := (blk_cell BK101.out 1).trans rfl
    have hfz39_0 := blk_frozen BK101.out 0
    have hfz39_1 := blk_frozen BK101.out 1
    try go_wp2_with (first | ((with_reducible refine gate_callee (f := 27) rfl ?_); refine goesL_ (some 26) rfl rfl Tryz.func27 (by kernel_rfl) rfl #[.agg #[.slice A0_0 l0_0.length c0_0, .int .i64 a0_1], .slice A1 l1.length c1] rfl (qba3_) ?_; (with_reducible refine (grommetref16_Get.calls _ _ l0_0 a0_1 _ _ l1 t110 t111 _ ?side1 ?side2 ?side3 ?side4 (hG.below (qba0_)) A18.out).mono ?_); (case side1 => repeat (first | exact (Kd.C_below HR0_0.out HB.out) | (with_reducible refine Kd.C_alloc ?_ _) | (with_reducible refine Kd.C_drewN ?_ _) | (with_reducible refine Kd.C_drew ?_))); (case side2 => exact HC0_0.out); (case side3 => repeat (first | exact (Kd.C_below HR1.out HB.out) | (with_reducible refine Kd.C_alloc ?_ _) | (with_reducible refine Kd.C_drewN ?_ _) | (with_reducible refine Kd.C_drew ?_))); (case side4 => exact HC1.out); rintro e w40 ⟨rfl, hb⟩; refine ⟨_, rfl, ?_⟩; have n0_ := Aside0.mk (Kd.R_below (qba4_) hb); have n1_ := Aside0.mk (blk_below (g := gb101) (o := .cells #[.slice A0_0 l0_0.length c0_0, .int .i64 a0_1] 24 (0, 0)) (qba2_) hb); have n2_ := Aside0.mk (below_step (qba1_) hb); clear HO107; clear BK101; clear HB; have HO107 := n0_; have BK101 := n1_; have HB := n2_; clear n0_ n1_ n2_; (try clear hb)))
    go_ret
    exact ⟨qba5_, qba1_⟩
   rw [if_pos c19] at H
   have c19b0 : (t108 == t110) = true := beq_iff_eq.mpr c19
   have c19b1 : (t108 != t110) = false := bne_eq_false_iff_eq.mpr c19
   clear c19
   by_cases c20 : t109 = t111
   rotate_left
   ·
    rw [if_neg c20] at H
    have c20b0 : (t109 == t111) = false := beq_eq_false_iff_ne.mpr c20
    have c20b1 : (t109 != t111) = true := bne_iff_ne.mpr c20
    obtain rfl := Option.some.inj H
    try go_wp2
    have n0_ := Aside0.mk (blk_drew BK101.out)
    have n1_ := Aside0.mk (below_drew1 HB.out)
    clear BK101
    clear HB
    have BK101 := n0_
    have HB := n1_
    clear n0_ n1_
    refine start_ (n := 9) (S := fun w' => w'.cell? ⟨gb101, 0, none⟩ = some (.slice A0_0 l0_0.length c0_0) ∧ w'.cell? ⟨gb101, 1, none⟩ = some (.int .i64 a0_1)) (ds := []) #[false, false, false, false, false, false, false, false, false] (by kernel_rfl) rfl rfl ⟨(blk_cell BK101.out 0).trans rfl, (blk_cell BK101.out 1).trans rfl⟩ (fun hHeld => ?_); refine with_tabW grommetlaw16_PathGets.tab3 grommetlaw16_PathGets.bits3 (fun HT_ HW_ => ?_)
    generalize wc.drew = w29 at BK101 HB hHeld ⊢
    refine pure_ (i := 1) (N := some 18) (v := ?_) (a' := ?_) #[false, true, false, false, false, false, false, false, false] rfl rfl (any_of HT_.out (by kernel_rfl)) (fun _ _ _ h => h) (Or.inl ⟨by rfl, ?_⟩) ?_ ?_
    rotate_left
    exact qba7_
    rotate_left
    exact qba8_
    refine take_ (i := 0) (N := some 17) (v := ?_) (a' := ?_) #[true, true, false, false, false, false, false, false, false] rfl rfl (take_ofW HT_.out HW_.out (by kernel_rfl)) (fun _ _ _ h => h) (Or.inl ⟨by rfl, ?_⟩) hHeld ?_ ?_
    rotate_left
    exact qba9_
    rotate_left
    exact qba8_
    refine one_ (i := 2) (N := some 19) #[true, true, true, false, false, false, false, false, false] rfl rfl (one_of HT_.out (by kernel_rfl)) (by decide) (fun K hK => ?_)
    refine goes_ Tryz.func26 (by kernel_rfl) rfl #[.slice A1 l1.length c1] (by rfl) rfl rfl (qba3_) ?_
    with_reducible refine (grommetlaw16_theirs.calls kj2 _ _ l1 t105 _ ?side1 ?side2 (hG.below (qba0_)) A16.out).mono ?_
    (case side1 => repeat (first | exact (Kd.C_below HR1.out HB.out) | (with_reducible refine Kd.C_alloc ?_ _) | (with_reducible refine Kd.C_drewN ?_ _) | (with_reducible refine Kd.C_drew ?_)))
    (case side2 => exact HC1.out)
    rintro e w30 ⟨v106, rfl, ho0, hb⟩
    refine ⟨_, rfl, ?_⟩
    have n0_ := Aside0.mk (Kd.R_lower ho0 (below_size (qba1_)))
    have n1_ := Aside0.mk (blk_below (g := gb101) (o := .cells #[.slice A0_0 l0_0.length c0_0, .int .i64 a0_1] 24 (0, 0)) (qba2_) hb)
    have n2_ := Aside0.mk (below_step (qba1_) hb)
    clear BK101
    clear HB
    have HO107 := n0_
    have BK101 := n1_
    have HB := n2_
    clear n0_ n1_ n2_
    (try clear hb)
    (try clear hb2)
    (try clear hk)
    (try clear hi)
    (try clear ho0)
    obtain ⟨Ao31, co31, eo31⟩ := Kd.R_slice HO107.out
    (first | subst eo31 | (injection eo31 with f1_ f2_ f3_; have f4_ := f1_.symm; have f5_ := f3_.symm; clear f1_ f2_ f3_; subst f4_; subst f5_))
    refine hK.out _ _ ⟨(blk_cell BK101.out 0).trans rfl, (blk_cell BK101.out 1).trans rfl⟩ (fun hHeld => ?_)
    clear hK K
    refine norm_ (a' := ?_) ?_ ?_
    rotate_left
    ·
     show Act.put _ (some 19) _ = _
     simp only [Act.put, List.setIfInBounds_toArray, List.set_cons_zero, List.set_cons_succ, i64_w, i32_w]
     rfl
    refine one_ (i := 3) (N := some 20) #[true, true, true, true, false, false, false, false, false] rfl rfl (one_of HT_.out (by kernel_rfl)) (by decide) (fun K hK => ?_)
    refine goes_ Tryz.func25 (by kernel_rfl) rfl #[.agg #[.slice A0_0 l0_0.length c0_0, .int .i64 a0_1], .slice Ao31 t105.length co31] (by rfl) rfl rfl (qba3_) ?_
    with_reducible refine (path_Get.calls kj2 _ _ l0_0 a0_1 _ _ t105 t108 t109 _ ?side1 ?side2 ?side3 ?side4 (hG.below (qba0_)) A17.out).mono ?_
    (case side1 => repeat (first | exact (Kd.C_below HR0_0.out HB.out) | (with_reducible refine Kd.C_alloc ?_ _) | (with_reducible refine Kd.C_drewN ?_ _) | (with_reducible refine Kd.C_drew ?_)))
    (case side2 => exact HC0_0.out)
    (case side3 => repeat (first | exact (Kd.R_reads' HO107.out).2.2 | (with_reducible refine Kd.C_alloc ?_ _) | (with_reducible refine Kd.C_drewN ?_ _) | (with_reducible refine Kd.C_drew ?_)))
    (case side4 => exact (Kd.R_reads' HO107.out).2.1)
    rintro e w32 ⟨rfl, hb⟩
    refine ⟨_, rfl, ?_⟩
    have n0_ := Aside0.mk (Kd.R_below (qba4_) hb)
    have n1_ := Aside0.mk (blk_below (g := gb101) (o := .cells #[.slice A0_0 l0_0.length c0_0, .int .i64 a0_1] 24 (0, 0)) (qba2_) hb)
    have n2_ := Aside0.mk (below_step (qba1_) hb)
    clear HO107
    clear BK101
    clear HB
    have HO107 := n0_
    have BK101 := n1_
    have HB := n2_
    clear n0_ n1_ n2_
    (try clear hb)
    (try clear hb2)
    (try clear hk)
    (try clear hi)
    refine hK.out _ _ ⟨(blk_cell BK101.out 0).trans rfl, (blk_cell BK101.out 1).trans rfl⟩ (fun hHeld => ?_)
    clear hK K
    refine norm_ (a' := ?_) ?_ ?_
    rotate_left
    ·
     show Act.put _ (some 20) _ = _
     simp only [Act.put, List.setIfInBounds_toArray, List.set_cons_zero, List.set_cons_succ, i64_w, i32_w]
     rfl
    refine pure_ (i := 4) (N := some 16) (v := ?_) (a' := ?_) #[true, true, true, true, true, false, false, false, false] rfl rfl (any_of HT_.out (by kernel_rfl)) (fun _ _ _ h => h) (Or.inl ⟨by rfl, ?_⟩) ?_ ?_
    rotate_left
    exact qba7_
    rotate_left
    exact qba8_
    refine pure_ (i := 5) (N := some 21) (v := ?_) (a' := ?_) #[true, true, true, true, true, true, false, false, false] rfl rfl (any_of HT_.out (by kernel_rfl)) (fun _ _ _ h => h) (Or.inl ⟨by rfl, ?_⟩) ?_ ?_
    rotate_left
    exact qba7_
    rotate_left
    exact qba8_
    refine pure_ (i := 6) (N := some 22) (v := ?_) (a' := ?_) #[true, true, true, true, true, true, true, false, false] rfl rfl (any_of HT_.out (by kernel_rfl)) (fun _ _ _ h => h) (Or.inl ⟨by rfl, ?_⟩) ?_ ?_
    rotate_left
    exact qba7_
    rotate_left
    exact qba8_
    refine pure_ (i := 7) (N := some 5) (v := ?_) (a' := ?_) #[true, true, true, true, true, true, true, true, false] rfl rfl (any_of HT_.out (by kernel_rfl)) (fun _ _ _ h => h) (Or.inl ⟨by rfl, ?_⟩) ?_ ?_
    rotate_left
    exact qba7_
    rotate_left
    exact qba8_
    refine pure_ (i := 8) (N := some 6) (v := ?_) (a' := ?_) #[true, true, true, true, true, true, true, true, true] rfl rfl (any_of HT_.out (by kernel_rfl)) (fun _ _ _ h => h) (Or.inl ⟨by rfl, ?_⟩) ?_ ?_
    rotate_left
    exact qba7_
    rotate_left
    exact qba8_
    refine done_ (done_of HT_.out (by kernel_rfl)) ?_
    have hcz33_0 : w32.cell? ⟨gb101, 0, none⟩ = some (.slice A0_0 l0_0.length c0_0) := (blk_cell BK101.out 0).trans rfl
    have hcz33_1 : w32.cell? ⟨gb101, 1, none⟩ = some (.int .i64 a0_1) := (blk_cell BK101.out 1).trans rfl
    have hfz33_0 := blk_frozen BK101.out 0
    have hfz33_1 := blk_frozen BK101.out 1
    try go_wp2_with (first | ((with_reducible refine gate_callee (f := 27) rfl ?_); refine goesL_ (some 26) rfl rfl Tryz.func27 (by kernel_rfl) rfl #[.agg #[.slice A0_0 l0_0.length c0_0, .int .i64 a0_1], .slice A1 l1.length c1] rfl (qba3_) ?_; (with_reducible refine (grommetref16_Get.calls _ _ l0_0 a0_1 _ _ l1 t110 t111 _ ?side1 ?side2 ?side3 ?side4 (hG.below (qba0_)) A18.out).mono ?_); (case side1 => repeat (first | exact (Kd.C_below HR0_0.out HB.out) | (with_reducible refine Kd.C_alloc ?_ _) | (with_reducible refine Kd.C_drewN ?_ _) | (with_reducible refine Kd.C_drew ?_))); (case side2 => exact HC0_0.out); (case side3 => repeat (first | exact (Kd.C_below HR1.out HB.out) | (with_reducible refine Kd.C_alloc ?_ _) | (with_reducible refine Kd.C_drewN ?_ _) | (with_reducible refine Kd.C_drew ?_))); (case side4 => exact HC1.out); rintro e w34 ⟨rfl, hb⟩; refine ⟨_, rfl, ?_⟩; have n0_ := Aside0.mk (Kd.R_below (qba4_) hb); have n1_ := Aside0.mk (blk_below (g := gb101) (o := .cells #[.slice A0_0 l0_0.length c0_0, .int .i64 a0_1] 24 (0, 0)) (qba2_) hb); have n2_ := Aside0.mk (below_step (qba1_) hb); clear HO107; clear BK101; clear HB; have HO107 := n0_; have BK101 := n1_; have HB := n2_; clear n0_ n1_ n2_; (try clear hb)))
    go_ret
    exact ⟨qba5_, qba1_⟩
   rw [if_pos c20] at H
   have c20b0 : (t109 == t111) = true := beq_iff_eq.mpr c20
   have c20b1 : (t109 != t111) = false := bne_eq_false_iff_eq.mpr c20
   clear c20
   replace H := Option.bind_eq_some_iff.mp H
   obtain ⟨t112, A210, H⟩ := H
   replace H : (some t112) = some r := H
   have A21 := Aside0.mk A210
   clear A210
   obtain rfl := Option.some.inj H
   try go_wp2
   have n0_ := Aside0.mk (blk_drew BK101.out)
   have n1_ := Aside0.mk (below_drew1 HB.out)
   clear BK101
   clear HB
   have BK101 := n0_
   have HB := n1_
   clear n0_ n1_
   refine start_ (n := 9) (S := fun w' => w'.cell? ⟨gb101, 0, none⟩ = some (.slice A0_0 l0_0.length c0_0) ∧ w'.cell? ⟨gb101, 1, none⟩ = some (.int .i64 a0_1)) (ds := []) #[false, false, false, false, false, false, false, false, false] (by kernel_rfl) rfl rfl ⟨(blk_cell BK101.out 0).trans rfl, (blk_cell BK101.out 1).trans rfl⟩ (fun hHeld => ?_); refine with_tabW grommetlaw16_PathGets.tab3 grommetlaw16_PathGets.bits3 (fun HT_ HW_ => ?_)
   generalize wc.drew = w22 at BK101 HB hHeld ⊢
   refine pure_ (i := 1) (N := some 18) (v := ?_) (a' := ?_) #[false, true, false, false, false, false, false, false, false] rfl rfl (any_of HT_.out (by kernel_rfl)) (fun _ _ _ h => h) (Or.inl ⟨by rfl, ?_⟩) ?_ ?_
   rotate_left
   exact qba7_
   rotate_left
   exact qba8_
   refine take_ (i := 0) (N := some 17) (v := ?_) (a' := ?_) #[true, true, false, false, false, false, false, false, false] rfl rfl (take_ofW HT_.out HW_.out (by kernel_rfl)) (fun _ _ _ h => h) (Or.inl ⟨by rfl, ?_⟩) hHeld ?_ ?_
   rotate_left
   exact qba9_
   rotate_left
   exact qba8_
   refine one_ (i := 2) (N := some 19) #[true, true, true, false, false, false, false, false, false] rfl rfl (one_of HT_.out (by kernel_rfl)) (by decide) (fun K hK => ?_)
   refine goes_ Tryz.func26 (by kernel_rfl) rfl #[.slice A1 l1.length c1] (by rfl) rfl rfl (qba3_) ?_
   with_reducible refine (grommetlaw16_theirs.calls kj2 _ _ l1 t105 _ ?side1 ?side2 (hG.below (qba0_)) A16.out).mono ?_
   (case side1 => repeat (first | exact (Kd.C_below HR1.out HB.out) | (with_reducible refine Kd.C_alloc ?_ _) | (with_reducible refine Kd.C_drewN ?_ _) | (with_reducible refine Kd.C_drew ?_)))
   (case side2 => exact HC1.out)
   rintro e w23 ⟨v106, rfl, ho0, hb⟩
   refine ⟨_, rfl, ?_⟩
   have n0_ := Aside0.mk (Kd.R_lower ho0 (below_size (qba1_)))
   have n1_ := Aside0.mk (blk_below (g := gb101) (o := .cells #[.slice A0_0 l0_0.length c0_0, .int .i64 a0_1] 24 (0, 0)) (qba2_) hb)
   have n2_ := Aside0.mk (below_step (qba1_) hb)
   clear BK101
   clear HB
   have HO107 := n0_
   have BK101 := n1_
   have HB := n2_
   clear n0_ n1_ n2_
   (try clear hb)
   (try clear hb2)
   (try clear hk)
   (try clear hi)
   (try clear ho0)
   obtain ⟨Ao24, co24, eo24⟩ := Kd.R_slice HO107.out
   (first | subst eo24 | (injection eo24 with f1_ f2_ f3_; have f4_ := f1_.symm; have f5_ := f3_.symm; clear f1_ f2_ f3_; subst f4_; subst f5_))
   refine hK.out _ _ ⟨(blk_cell BK101.out 0).trans rfl, (blk_cell BK101.out 1).trans rfl⟩ (fun hHeld => ?_)
   clear hK K
   refine norm_ (a' := ?_) ?_ ?_
   rotate_left
   ·
    show Act.put _ (some 19) _ = _
    simp only [Act.put, List.setIfInBounds_toArray, List.set_cons_zero, List.set_cons_succ, i64_w, i32_w]
    rfl
   refine one_ (i := 3) (N := some 20) #[true, true, true, true, false, false, false, false, false] rfl rfl (one_of HT_.out (by kernel_rfl)) (by decide) (fun K hK => ?_)
   refine goes_ Tryz.func25 (by kernel_rfl) rfl #[.agg #[.slice A0_0 l0_0.length c0_0, .int .i64 a0_1], .slice Ao24 t105.length co24] (by rfl) rfl rfl (qba3_) ?_
   with_reducible refine (path_Get.calls kj2 _ _ l0_0 a0_1 _ _ t105 t108 t109 _ ?side1 ?side2 ?side3 ?side4 (hG.below (qba0_)) A17.out).mono ?_
   (case side1 => repeat (first | exact (Kd.C_below HR0_0.out HB.out) | (with_reducible refine Kd.C_alloc ?_ _) | (with_reducible refine Kd.C_drewN ?_ _) | (with_reducible refine Kd.C_drew ?_)))
   (case side2 => exact HC0_0.out)
   (case side3 => repeat (first | exact (Kd.R_reads' HO107.out).2.2 | (with_reducible refine Kd.C_alloc ?_ _) | (with_reducible refine Kd.C_drewN ?_ _) | (with_reducible refine Kd.C_drew ?_)))
   (case side4 => exact (Kd.R_reads' HO107.out).2.1)
   rintro e w25 ⟨rfl, hb⟩
   refine ⟨_, rfl, ?_⟩
   have n0_ := Aside0.mk (Kd.R_below (qba4_) hb)
   have n1_ := Aside0.mk (blk_below (g := gb101) (o := .cells #[.slice A0_0 l0_0.length c0_0, .int .i64 a0_1] 24 (0, 0)) (qba2_) hb)
   have n2_ := Aside0.mk (below_step (qba1_) hb)
   clear HO107
   clear BK101
   clear HB
   have HO107 := n0_
   have BK101 := n1_
   have HB := n2_
   clear n0_ n1_ n2_
   (try clear hb)
   (try clear hb2)
   (try clear hk)
   (try clear hi)
   refine hK.out _ _ ⟨(blk_cell BK101.out 0).trans rfl, (blk_cell BK101.out 1).trans rfl⟩ (fun hHeld => ?_)
   clear hK K
   refine norm_ (a' := ?_) ?_ ?_
   rotate_left
   ·
    show Act.put _ (some 20) _ = _
    simp only [Act.put, List.setIfInBounds_toArray, List.set_cons_zero, List.set_cons_succ, i64_w, i32_w]
    rfl
   refine pure_ (i := 4) (N := some 16) (v := ?_) (a' := ?_) #[true, true, true, true, true, false, false, false, false] rfl rfl (any_of HT_.out (by kernel_rfl)) (fun _ _ _ h => h) (Or.inl ⟨by rfl, ?_⟩) ?_ ?_
   rotate_left
   exact qba7_
   rotate_left
   exact qba8_
   refine pure_ (i := 5) (N := some 21) (v := ?_) (a' := ?_) #[true, true, true, true, true, true, false, false, false] rfl rfl (any_of HT_.out (by kernel_rfl)) (fun _ _ _ h => h) (Or.inl ⟨by rfl, ?_⟩) ?_ ?_
   rotate_left
   exact qba7_
   rotate_left
   exact qba8_
   refine pure_ (i := 6) (N := some 22) (v := ?_) (a' := ?_) #[true, true, true, true, true, true, true, false, false] rfl rfl (any_of HT_.out (by kernel_rfl)) (fun _ _ _ h => h) (Or.inl ⟨by rfl, ?_⟩) ?_ ?_
   rotate_left
   exact qba7_
   rotate_left
   exact qba8_
   refine pure_ (i := 7) (N := some 5) (v := ?_) (a' := ?_) #[true, true, true, true, true, true, true, true, false] rfl rfl (any_of HT_.out (by kernel_rfl)) (fun _ _ _ h => h) (Or.inl ⟨by rfl, ?_⟩) ?_ ?_
   rotate_left
   exact qba7_
   rotate_left
   exact qba8_
   refine pure_ (i := 8) (N := some 6) (v := ?_) (a' := ?_) #[true, true, true, true, true, true, true, true, true] rfl rfl (any_of HT_.out (by kernel_rfl)) (fun _ _ _ h => h) (Or.inl ⟨by rfl, ?_⟩) ?_ ?_
   rotate_left
   exact qba7_
   rotate_left
   exact qba8_
   refine done_ (done_of HT_.out (by kernel_rfl)) ?_
   have hcz26_0 : w25.cell? ⟨gb101, 0, none⟩ = some (.slice A0_0 l0_0.length c0_0) := (blk_cell BK101.out 0).trans rfl
   have hcz26_1 : w25.cell? ⟨gb101, 1, none⟩ = some (.int .i64 a0_1) := (blk_cell BK101.out 1).trans rfl
   have hfz26_0 := blk_frozen BK101.out 0
   have hfz26_1 := blk_frozen BK101.out 1
   try go_wp2_with (first | ((with_reducible refine gate_callee (f := 27) rfl ?_); refine goesL_ (some 26) rfl rfl Tryz.func27 (by kernel_rfl) rfl #[.agg #[.slice A0_0 l0_0.length c0_0, .int .i64 a0_1], .slice A1 l1.length c1] rfl (qba3_) ?_; (with_reducible refine (grommetref16_Get.calls _ _ l0_0 a0_1 _ _ l1 t110 t111 _ ?side1 ?side2 ?side3 ?side4 (hG.below (qba0_)) A18.out).mono ?_); (case side1 => repeat (first | exact (Kd.C_below HR0_0.out HB.out) | (with_reducible refine Kd.C_alloc ?_ _) | (with_reducible refine Kd.C_drewN ?_ _) | (with_reducible refine Kd.C_drew ?_))); (case side2 => exact HC0_0.out); (case side3 => repeat (first | exact (Kd.C_below HR1.out HB.out) | (with_reducible refine Kd.C_alloc ?_ _) | (with_reducible refine Kd.C_drewN ?_ _) | (with_reducible refine Kd.C_drew ?_))); (case side4 => exact HC1.out); rintro e w27 ⟨rfl, hb⟩; refine ⟨_, rfl, ?_⟩; have n0_ := Aside0.mk (Kd.R_below (qba4_) hb); have n1_ := Aside0.mk (blk_below (g := gb101) (o := .cells #[.slice A0_0 l0_0.length c0_0, .int .i64 a0_1] 24 (0, 0)) (qba2_) hb); have n2_ := Aside0.mk (below_step (qba1_) hb); clear HO107; clear BK101; clear HB; have HO107 := n0_; have BK101 := n1_; have HB := n2_; clear n0_ n1_ n2_; (try clear hb)) | (go_at_call 24; (with_reducible refine (grommetlaw16_alive.calls  t112 _ (hG.below (qba0_)) A21.out).mono ?_); rintro e w28 ⟨rfl, hb⟩; have n0_ := Aside0.mk (Kd.R_below (qba4_) hb); have n1_ := Aside0.mk (blk_below (g := gb101) (o := .cells #[.slice A0_0 l0_0.length c0_0, .int .i64 a0_1] 24 (0, 0)) (qba2_) hb); have n2_ := Aside0.mk (below_step (qba1_) hb); clear HO107; clear BK101; clear HB; have HO107 := n0_; have BK101 := n1_; have HB := n2_; clear n0_ n1_ n2_; (try clear hb)))
   go_ret
   exact ⟨qba5_, qba1_⟩
end Go.Proofs.YtiooacmplmcphaaGreatDoor.PX
namespace Go.Proofs.YtiooacmplmcphaaGreatDoor.Graphs
open RowKit YtiooacmplmcphaaGreatDoor YtiooacmplmcphaaGreatDoor.PX YtiooacmplmcphaaGreatDoor.Plug YtiooacmplmcphaaGreatDoor.Mapk YtiooacmplmcphaaGreatDoor.Paths YtiooacmplmcphaaGreatDoorW.PrintWords YtiooacmplmcphaaGreatDoorW.PrintLast YtiooacmplmcphaaGreatDoorW.PrintMore
theorem rd_ste (l : List St) (i : Nat) (h : i < l.length) : rd_T98 l (i : Int) = l[i] := by
  unfold rd_T98; rw [Int.toNat_natCast, List.getD_eq_getElem?_getD, List.getElem?_eq_getElem h]; rfl
theorem walkG_cons (l : List Nd) (x : St) (r : List St) (at_ : Int) : walkG l (x :: r) at_ = if (stepG l at_ x).2 = 0 then walkG l r (stepG l at_ x).1 else (0, (stepG l at_ x).2) := rfl
theorem prog_get_l0 (l : List Nd) (root : Int) (hs : sizesB l = true) (hr : rightB l root = true) (k : List St) (hk : k.length ≤ 64) (hok : ∀ x ∈ k, okStep x = true) :
  ∀ (d i K : Nat) (at_ : Int), k.length = i + d → RightG l at_ → 3 * d + 1 ≤ K → path_Get.l0 K at_ k (k.length : Int) (i : Int) l root = some (walkG l (k.drop i) at_)
 | 0, i, K, at_, hi, h, hK => by
  obtain ⟨K, rfl⟩ : ∃ k, K = k + 1 := ⟨K - 1, by omega⟩
  rw [path_Get.l0, if_neg (by omega), List.drop_of_length_le (by omega)]; rfl
 | d + 1, i, K, at_, hi, h, hK => by
  obtain ⟨K, rfl⟩ : ∃ k, K = k + 1 + 1 + 1 := ⟨K - 3, by omega⟩
  have hlt : i < k.length := by omega
  have ho := hok k[i] (List.getElem_mem hlt)
  have ih := prog_get_l0 l root hs hr k hk hok d (i + 1)
  have hst : (stepG l at_ k[i]).2 = 0 → RightG l (stepG l at_ k[i]).1 := fun h0 => stepG_right h k[i] (fun hx => by unfold okStep at ho; rw [hx] at ho; simp at ho; exact ho.1) h0
  rw [path_Get.l0, if_pos (by omega), if_pos (by omega), if_pos (by omega), if_pos h.r0, if_pos h.r1, rd_ste k i hlt, List.drop_eq_getElem_cons hlt, walkG_cons]
  generalize k[i] = x at *
  have hj3 : ∀ K b, path_Get.j3 (K + 1) at_ k (k.length : Int) (i : Int) b l root x.f0 x.f1 x.f2 = if b = true then ((iso_Find.f l root at_ 4 x.f0).bind fun bt110 => (if bt110.2 = true then (path_Get.l0 K bt110.1 k (k.length : Int) (wrap64 ((i : Int) + 1)) l root) else (some (0, 6)))) else (some (0, 17)) := fun K b => rfl
  by_cases c : x.f2 = true
  ·
   rw [if_pos c, c, stepG_idx l at_ x c]
   rw [stepG_idx l at_ x c] at hst
   unfold okStep at ho
   rw [c] at ho
   simp at ho
   by_cases k5 : (rd_T45 l at_).f0 = 5
   rotate_left
   ·
    rw [show ((rd_T45 l at_).f0 == 5) = false from beq_eq_false_iff_ne.2 k5, if_neg k5]
    rw [path_Get.j2, if_neg Bool.false_ne_true, if_pos rfl]; rfl
   rw [show ((rd_T45 l at_).f0 == 5) = true from beq_iff_eq.2 k5, if_pos k5]
   rw [if_pos k5] at hst
   rw [path_Get.j2, if_pos rfl]
   by_cases hx : x.f1 < ((rd_T45 l at_).f2.length : Int)
   rotate_left
   · rw [if_neg hx, if_neg hx, if_neg hx]; rfl
   rw [if_pos hx] at hst
   rw [if_pos hx, if_pos ho.1, if_pos hx, w1 i (by omega), ih (K + 1) _ (by omega) (hst rfl) (by omega), if_pos hx, if_pos rfl]
  have c' := Bool.eq_false_iff.2 c
  rw [stepG_key l at_ x c'] at hst ⊢
  unfold okStep at ho
  rw [c'] at ho
  simp at ho
  have hf := prog_find l root at_ (4, x.f0) hs h hr ⟨⟨by dsimp only; omega, by dsimp only; omega⟩, by dsimp only; omega⟩
  rw [if_neg c, path_Get.j2, if_neg Bool.false_ne_true, if_neg c]
  by_cases k6 : (rd_T45 l at_).f0 = 6
  rotate_left
  ·
   rw [show ((rd_T45 l at_).f0 == 6) = false from beq_eq_false_iff_ne.2 k6, if_neg k6]
   rw [hj3, if_neg Bool.false_ne_true]; rfl
  rw [show ((rd_T45 l at_).f0 == 6) = true from beq_iff_eq.2 k6, if_pos k6]
  rw [if_pos k6] at hst
  rw [hj3, if_pos rfl, hf, Option.bind_some]
  by_cases hx : (findG l at_ (4, x.f0)).2 = true
  rotate_left
  · rw [if_neg hx, if_neg hx]; rfl
  rw [if_pos hx] at hst
  rw [if_pos hx, if_pos hx, w1 i (by omega), ih K _ (by omega) (hst rfl) (by omega), if_pos rfl]
theorem prog_get (l : List Nd) (root : Int) (k : List St) (hs : sizesB l = true) (K : Nat) (hK : 300 ≤ K) : path_Get.f K l root k = some (getG l root k) := by
 obtain ⟨K, rfl⟩ : ∃ k, K = k + 1 := ⟨K - 1, by omega⟩
 have hF : path_Format.f k = some (⟨(fmtB k).1.toArray⟩, (fmtB k).2) := rfl
 have hR : graph_Right.f l root = some (rightB l root) := by unfold graph_Right.f; rw [if_pos hs]
 have hj : path_Get.j0 (K + 1) k true l root = some (0, 1) := by rw [path_Get.j0, if_pos rfl]
 unfold path_Get.f getG
 rw [hF, Option.bind_some, hR, Option.bind_some]
 by_cases h : (fmtB k).2 = 0
 rotate_left
 · rw [if_neg h, if_neg h, hj]
 obtain ⟨h1, h2, _⟩ := fmtB_ok k h
 rw [if_pos h, if_pos h]
 cases hr : rightB l root with
 | true => rw [if_pos rfl, Bool.not_true, path_Get.j0, if_neg Bool.false_ne_true, show (0 : Int) = ((0 : Nat) : Int) from rfl, prog_get_l0 l root hs hr k h1 h2 k.length 0 K root (by omega) ((right_iff l root hs).1 hr) (by omega), List.drop_zero]
 | false => rw [if_neg Bool.false_ne_true, Bool.not_false, hj]
theorem large_l0 (l : List Nd) (root : Int) (ns : List Nd) (hn : ns.length ≤ 200) : ∀ (d i K : Nat) (x3 : Int), ns.length = i + d → d + 1 ≤ K → ∃ b, grommetlaw16_large.l0 K x3 ns (ns.length : Int) (i : Int) l root = some b
 | 0, i, K, x3, hi, hK => by
  obtain ⟨K, rfl⟩ : ∃ k, K = k + 1 := ⟨K - 1, by omega⟩
  rw [grommetlaw16_large.l0, if_neg (by omega)]
  split
  ·
   split
   · exact ⟨_, rfl⟩
   · exact ⟨_, rfl⟩
  · exact ⟨_, rfl⟩
 | d + 1, i, K, x3, hi, hK => by
  obtain ⟨K, rfl⟩ : ∃ k, K = k + 1 := ⟨K - 1, by omega⟩
  rw [grommetlaw16_large.l0, if_pos (by omega), if_pos (by omega), if_pos (by omega), w1 i (by omega)]
  exact large_l0 l root ns hn d (i + 1) K _ (by omega) (by omega)
theorem large_of (l : List Nd) (root : Int) (K : Nat) (hK : 201 ≤ K) : ∃ b, grommetlaw16_large.f K l root = some b := by
 have h : (mn (l.length : Int) 200).toNat ≤ 200 ∧ 0 ≤ mn (l.length : Int) 200 ∧ mn (l.length : Int) 200 ≤ (l.length : Int) := by unfold mn; split <;> omega
 unfold grommetlaw16_large.f
 rw [if_pos h.2.1, if_pos h.2.2, Option.bind_some]
 have hl : (l.take (mn (l.length : Int) 200).toNat).length ≤ 200 := by rw [List.length_take]; omega
 rw [show (0 : Int) = ((0 : Nat) : Int) from rfl]
 exact large_l0 l root _ hl _ 0 K _ (Nat.zero_add _).symm (by omega)
end Go.Proofs.YtiooacmplmcphaaGreatDoor.Graphs
namespace Go.Proofs.YtiooacmplmcphaaGreatDoor.Pure
open RowKit YtiooacmplmcphaaGreatDoor.PX YtiooacmplmcphaaGreatDoor.Plug YtiooacmplmcphaaGreatDoor.Graphs YtiooacmplmcphaaGreatDoor.Paths YtiooacmplmcphaaGreatDoorW.PrintWords YtiooacmplmcphaaGreatDoorW.PrintLast
theorem sizes_of (l : List S45) (h : Opened.bulkL Opened.bulkNode l ≤ 1048576) : sizesB l = true ∧ allL l + l.length ≤ 1048576 := by
 obtain ⟨h1, h2⟩ := Opened.nodes_bulk l
 refine ⟨List.all_eq_true.2 fun m hm => ?_, by show (l.map fun n => n.f2.length).sum + l.length ≤ 1048576; omega⟩
 have := h1 m hm
 rw [decide_eq_true (by omega), decide_eq_true (by omega)]; rfl
theorem PathGets (l : List S45) (root : Int) (k : List Sr) (_hg : Opened.goodGraph (l, root)) (_hk : ∀ x ∈ k, Opened.goodStep x) (hbk : Opened.bulkGraph (l, root) + Opened.bulkL Opened.bulkStep k ≤ 1048576) : ∃ K, grommetlaw16_PathGets.f K l root k = some true := by
 have lk := Opened.steps_len k
 have hb : Opened.bulkGraph (l, root) = Opened.bulkL Opened.bulkNode l + 2 := rfl
 obtain ⟨hs, hal⟩ := sizes_of l (by omega)
 refine ⟨8000000 + 1, ?_⟩
 obtain ⟨p, hp⟩ := large_of l root (8000000 + 1) (by omega)
 obtain ⟨q, hq, _⟩ := long_of k (by omega) (8000000 + 1) (by omega)
 have h1 : grommetlaw16_PathGets.j0 (8000000 + 1) k true l root = some true := by
  rw [grommetlaw16_PathGets.j0, if_pos rfl, alive16]; rfl
 have hRG : grommetref16_Get.f l root k = some (getG l root (k.map conv)) := by unfold grommetref16_Get.f; rw [if_pos hs]
 have h2 : grommetlaw16_PathGets.j0 (8000000 + 1) k false l root = some true := by
  rw [grommetlaw16_PathGets.j0, if_neg Bool.false_ne_true, theirs_of k (by omega) 8000000 (by omega), Option.bind_some, prog_get l root (k.map conv) hs 8000000 (by omega), Option.bind_some, hRG, Option.bind_some, if_pos rfl, if_pos rfl, alive16]; rfl
 unfold grommetlaw16_PathGets.f
 rw [hp, Option.bind_some]
 cases p with
 | true => rw [if_pos rfl]; exact h1
 | false =>
  rw [if_neg Bool.false_ne_true, hq, Option.bind_some]
  cases q with
  | true => exact h1
  | false => exact h2
end Go.Proofs.YtiooacmplmcphaaGreatDoor.Pure

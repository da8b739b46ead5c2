/- Texts that stand behind one another, laid into one: what this claim needs of them. -/
import Derived.Test.YtnjcpoojgmpmeaaGreatDoorBT0
import Derived.Test.YtnjcpoojgmpmeaaGreatDoorBT1
import Derived.Lib.AtoiAllCases
import Derived.Lib.ItoaLen
import Derived.Test.YtnjcpoojgmpmeaaGreatDoorBT2
import Derived.Outline
namespace Go.Proofs.YtnjcpoojgmpmeaaGreatDoor.PX
open RowKit YtnjcpoojgmpmeaaGreatDoorW.PrintWords YtnjcpoojgmpmeaaGreatDoorW.PrintLast YtnjcpoojgmpmeaaGreatDoorW.PrintMore YtnjcpoojgmpmeaaGreatDoor
attribute [local go_sem] max2_int min2_int max_two min_two max_three min_three max_four min_four   -- for this text's walks alone
set_option linter.unusedVariables false
set_option linter.unusedSimpArgs false
mutual
def grommetref12_uses.l0 : Nat → List Int → List Bool → Int → List (S45) → Int → Option (List Int × List Bool)
  | 0, _, _, _, _, _ => none
  | k + 1, x4, x5, x6, x102000, x102001 => if x6 < (x102000.length : Int) then (if 0 ≤ x6 then (grommetref12_uses.l1 k x4 x5 x6 0 x102000 x102001 ((rd_T45 x102000 x6).f0) ((rd_T45 x102000 x6).f1) ((rd_T45 x102000 x6).f2)) else (none)) else (some (x4, x5))
def grommetref12_uses.l1 : Nat → List Int → List Bool → Int → Int → List (S45) → Int → Int → ByteArray → List Int → Option (List Int × List Bool)
  | 0, _, _, _, _, _, _, _, _, _ => none
  | k + 1, x4, x5, x6, x8, x102000, x102001, x110000, x110001, x110002 => if x8 < (x110002.length : Int) then (if 0 ≤ x8 then (if 0 ≤ (rd x110002 x8) then (if (rd x110002 x8) < (x4.length : Int) then ((some (x4.set ((rd x110002 x8) : Int).toNat (wrap64 ((rd x4 (rd x110002 x8)) + 1)) : List Int)).bind fun y112 => (if x110000 = 6 then (if (Int.tmod x8 2) = 0 then (if (rd x110002 x8) < (x5.length : Int) then (grommetref12_uses.l1 k y112 (x5.set ((rd x110002 x8) : Int).toNat true) x6 (wrap64 (x8 + 1)) x102000 x102001 x110000 x110001 x110002) else (none)) else (grommetref12_uses.l1 k y112 x5 x6 (wrap64 (x8 + 1)) x102000 x102001 x110000 x110001 x110002)) else (grommetref12_uses.l1 k y112 x5 x6 (wrap64 (x8 + 1)) x102000 x102001 x110000 x110001 x110002))) else (none)) else (none)) else (none)) else (grommetref12_uses.l0 k x4 x5 (wrap64 (x6 + 1)) x102000 x102001)
end
def grommetref12_uses.f (k : Nat) (l0_0 : List (S45)) (a0_1 : Int) : Option (List Int × List Bool) := if 0 ≤ (l0_0.length : Int) then (if ((l0_0.length : Int) : Int).toNat ≤ 35184372088832 then (if ((l0_0.length : Int) : Int).toNat ≤ 281474976710656 then (grommetref12_uses.l0 k (List.replicate ((l0_0.length : Int) : Int).toNat 0) (List.replicate ((l0_0.length : Int) : Int).toNat false) 0 l0_0 a0_1) else (none)) else (none)) else (none)
theorem qya0_ {P : Prop} (h_ : P := by (with_reducible repeat (first | refine blk_drewN ?_ _ | refine blk_drew ?_ | refine blk_alloc ?_ _)); exact BK101.out) : P := h_
theorem qya1_ {P : Prop} (h_ : P := by first | (with_reducible assumption) | assumption) : P := h_
theorem qya2_ {P : Prop} (h_ : P := by repeat (first | (with_reducible first | exact HB.out | apply below_alloc | apply pw_below_drewN | apply below_drew1 | refine below_set ?_ GE101.out) | exact HB.out)) : P := h_
theorem qya3_ {P : Prop} (h_ : P := by (with_reducible repeat (first | apply Kd.R_alloc | apply Kd.R_drewN | apply Kd.R_drew)); exact HO_5.out) : P := h_
theorem qya4_ {P : Prop} (h_ : P := by repeat (first | (with_reducible first | exact HB.out | apply below_alloc | apply pw_below_drewN | apply below_drew1 | refine below_set ?_ GE101.out | refine below_set ?_ GE109.out) | exact HB.out)) : P := h_
theorem qya5_ {P : Prop} (h_ : P := by (with_reducible repeat (first | refine blk_drewN ?_ _ | refine blk_drew ?_ | refine blk_alloc ?_ _)); exact BK109.out) : P := h_
theorem qya6_ {P : Prop} (h_ : P := by (with_reducible repeat (first | apply Kd.R_alloc | apply Kd.R_drewN | apply Kd.R_drew)); exact HO_4.out) : P := h_
theorem qya7_ {P : Prop} (h_ : P := by repeat (first | (with_reducible first | exact HB.out | apply below_alloc | apply pw_below_drewN | apply below_drew1) | exact HB.out)) : P := h_
theorem qya8_ {P : Prop} (h_ : P := by first | rfl | (simp; done) | (simp [*]; done)) : P := h_
theorem qya9_ {P : Prop} (h_ : P := by have := HK1.out; have := HK2.out; omega) : P := h_
set_option maxHeartbeats 8000000 in
set_option maxRecDepth 100000 in
theorem grommetref12_uses.calls (k : Nat) (A0_0 : Option Addr) (c0_0 : Nat) (l0_0 : List (S45)) (a0_1 : Int) (r1 : List Int) (r2 : List Bool) (w : World) (hr0_0 : Kd.C k45 w A0_0 l0_0.length l0_0) (hc0_0 : l0_0.length ≤ c0_0) (hG : Glob.G w) (h : grommetref12_uses.f k l0_0 a0_1 = some (r1, r2)) :
  Calls Tryz.prog 69 #[.agg #[.slice A0_0 l0_0.length c0_0, .int .i64 a0_1]] w fun e w' => ∃ v0_ v1_ : Value, e = .returned (.tuple #[v0_, v1_]) ∧ Kd.R (Kd.int .i64) 3 w' w.heap.size (fun _ => True) v0_ r1 ∧ Kd.R Kd.bool 4 w' w.heap.size (fun _ => True) v1_ r2 ∧ Below w.heap.size w w' := by
 have hu24 := Tryz.underlying24
 have hu45 := Tryz.underlying45
 have HR0_0 := Aside0.mk hr0_0
 have HC0_0 := Aside0.mk hc0_0
 clear hr0_0 hc0_0
 have HB := Aside0.mk (Below.refl w.heap.size w)
 have H : (if 0 ≤ (l0_0.length : Int) then (if ((l0_0.length : Int) : Int).toNat ≤ 35184372088832 then (if ((l0_0.length : Int) : Int).toNat ≤ 281474976710656 then (grommetref12_uses.l0 k (List.replicate ((l0_0.length : Int) : Int).toNat 0) (List.replicate ((l0_0.length : Int) : Int).toNat false) 0 l0_0 a0_1) else (none)) else (none)) else (none)) = some (r1, r2) := h
 clear h
 by_cases c2 : 0 ≤ (l0_0.length : Int)
 rotate_left
 ·
  rw [if_neg c2] at H
  exact absurd H (by simp)
 rw [if_pos c2] at H
 have c2b0 := eq_true c2
 have c2b1 : decide (0 ≤ (l0_0.length : Int)) = true := decide_eq_true c2
 clear c2
 by_cases c3 : ((l0_0.length : Int) : Int).toNat ≤ 35184372088832
 rotate_left
 ·
  rw [if_neg c3] at H
  exact absurd H (by simp)
 rw [if_pos c3] at H
 have c3b0 := eq_true c3
 have c3b1 : decide (((l0_0.length : Int) : Int).toNat ≤ 35184372088832) = true := decide_eq_true c3
 clear c3
 obtain ⟨y102, hy102⟩ : ∃ y_ : List Int, y_ = (List.replicate ((l0_0.length : Int) : Int).toNat 0) := ⟨_, rfl⟩
 replace H : (if ((l0_0.length : Int) : Int).toNat ≤ 281474976710656 then (grommetref12_uses.l0 k y102 (List.replicate ((l0_0.length : Int) : Int).toNat false) 0 l0_0 a0_1) else (none)) = some (r1, r2) := by first | (rw [hy102]; with_reducible exact H) | (have H2_ := (Option.bind_some _ _).symm.trans H; rw [hy102]; with_reducible exact H2_) | (have H2_ := (Option.bind_some _ _).symm.trans H; with_reducible exact H2_) | with_reducible exact H | (rw [hy102]; exact H) | exact H
 have Ny102 := Aside0.mk hy102
 clear hy102
 by_cases c4 : ((l0_0.length : Int) : Int).toNat ≤ 281474976710656
 rotate_left
 ·
  rw [if_neg c4] at H
  exact absurd H (by simp)
 rw [if_pos c4] at H
 have c4b0 := eq_true c4
 have c4b1 : decide (((l0_0.length : Int) : Int).toNat ≤ 281474976710656) = true := decide_eq_true c4
 clear c4
 obtain ⟨y105, hy105⟩ : ∃ y_ : List Bool, y_ = (List.replicate ((l0_0.length : Int) : Int).toNat false) := ⟨_, rfl⟩
 replace H : (grommetref12_uses.l0 k y102 y105 0 l0_0 a0_1) = some (r1, r2) := by first | (rw [hy105]; with_reducible exact H) | (have H2_ := (Option.bind_some _ _).symm.trans H; rw [hy105]; with_reducible exact H2_) | (have H2_ := (Option.bind_some _ _).symm.trans H; with_reducible exact H2_) | with_reducible exact H | (rw [hy105]; exact H) | exact H
 have Ny105 := Aside0.mk hy105
 clear hy105
 have H' := Aside0.mk H
 clear H
 go_enter Tryz.func69, Tryz.ntmps69
 go_wp2_with (first | ((with_reducible refine gate_dst (N := 1) rfl ?_); refine box_event ?hg (N := 1) ?hd (cs := #[.slice A0_0 l0_0.length c0_0, .int .i64 a0_1]) (t := 24) ?hr ?_; (case hd => rfl); (case hg => rfl); (case hr => first | (go_simp; done) | (go_simp; rfl)); intro gb101 hg w5 hbox hb; have n0_ := Aside0.mk (below_step (qya7_) hb); have n1_ := Aside0.mk (hbox); have n2_ := Aside0.mk ((by rw [hg]; exact (below_size (qya7_)) : w.heap.size ≤ gb101)); have n3_ := Aside0.mk ((by rw [hg]; exact (below_size (qya7_)) : w.heap.size ≤ gb101)); clear HB; have HB := n0_; have BK101 := n1_; have GW101 := n2_; have GE101 := n3_; clear n0_ n1_ n2_ n3_; clear hb hbox hg; have hcz6_0 : w5.cell? ⟨gb101, 0, none⟩ = some (.slice A0_0 l0_0.length c0_0) := (blk_cell BK101.out 0).trans rfl; have hcz6_1 : w5.cell? ⟨gb101, 1, none⟩ = some (.int .i64 a0_1) := (blk_cell BK101.out 1).trans rfl; have hfz6_0 := blk_frozen BK101.out 0; have hfz6_1 := blk_frozen BK101.out 1) | ((with_reducible refine gate_dst (N := 12) rfl ?_); refine Kd.R_make (Kd.int .i64) _ 3 rfl (N := 12) rfl 40 _ _ rfl (l0_0.length : Int) rfl rfl Tryz.underlying40 (.int .i64 0) 8 info3 rfl (by decide) (by omega) 0 (ok := fun _ => True) (okp := fun _ => True) rfl (fun _ hk => hk) trivial (of_decide_eq_true (qya1_)) (Nat.le_trans (Nat.mul_le_mul_right _ (of_decide_eq_true (qya1_) : (l0_0.length : Int).toNat ≤ 35184372088832)) (by omega)) (Below.refl _ _) (Nat.le_refl _) ?_; intro v103 w7 ho8 hb hg_ hnew_; clear hg_ hnew_; (first | rw [← Ny102.out] at ho8 | (simp only [Int.reduceToNat] at ho8; rw [← Ny102.out] at ho8)); have n0_ := Aside0.mk (Kd.R_lower ho8 (below_size (qya2_))); have n1_ := Aside0.mk (blk_below (g := gb101) (o := .cells #[.slice A0_0 l0_0.length c0_0, .int .i64 a0_1] 24 (0, 0)) (qya0_) hb); have n2_ := Aside0.mk (below_step (qya2_) hb); clear BK101; clear HB; have HO104 := n0_; have BK101 := n1_; have HB := n2_; clear n0_ n1_ n2_; clear hb ho8; have hcz9_0 : w7.cell? ⟨gb101, 0, none⟩ = some (.slice A0_0 l0_0.length c0_0) := (blk_cell BK101.out 0).trans rfl; have hcz9_1 : w7.cell? ⟨gb101, 1, none⟩ = some (.int .i64 a0_1) := (blk_cell BK101.out 1).trans rfl; have hfz9_0 := blk_frozen BK101.out 0; have hfz9_1 := blk_frozen BK101.out 1) | ((with_reducible refine gate_dst (N := 16) rfl ?_); refine Kd.R_make Kd.bool _ 4 rfl (N := 16) rfl 72 _ _ rfl (l0_0.length : Int) rfl rfl Tryz.underlying72 (.bool false) 1 info4 rfl (by decide) (by omega) false (ok := fun _ => True) (okp := fun _ => True) rfl (fun _ hk => hk) trivial (of_decide_eq_true (qya1_)) (Nat.le_trans (Nat.mul_le_mul_right _ (of_decide_eq_true (qya1_) : (l0_0.length : Int).toNat ≤ 281474976710656)) (by omega)) (Below.refl _ _) (Nat.le_refl _) ?_; intro v106 w10 ho11 hb hg_ hnew_; clear hg_ hnew_; (first | rw [← Ny105.out] at ho11 | (simp only [Int.reduceToNat] at ho11; rw [← Ny105.out] at ho11)); have n0_ := Aside0.mk (Kd.R_below (by (with_reducible repeat (first | apply Kd.R_alloc | apply Kd.R_drewN | apply Kd.R_drew)); exact HO104.out) hb); have n1_ := Aside0.mk (Kd.R_lower ho11 (below_size (qya2_))); have n2_ := Aside0.mk (blk_below (g := gb101) (o := .cells #[.slice A0_0 l0_0.length c0_0, .int .i64 a0_1] 24 (0, 0)) (qya0_) hb); have n3_ := Aside0.mk (below_step (qya2_) hb); clear HO104; clear BK101; clear HB; have HO104 := n0_; have HO107 := n1_; have BK101 := n2_; have HB := n3_; clear n0_ n1_ n2_ n3_; clear hb ho11))
 go_loopg [6] k (fun kq v6 w' => ∃ (x4_1 : List Int) (x5_1 : List Bool) (x6_1 : Int), v6 = .int .i64 x6_1 ∧ Aside0 (grommetref12_uses.l0 kq x4_1 x5_1 x6_1 l0_0 a0_1 = some (r1, r2)) ∧ Aside0 (kq ≤ k) ∧ Aside0 (Kd.R (Kd.int .i64) 3 w' w.heap.size (fun _ => True) v103 x4_1) ∧ Aside0 (Kd.R Kd.bool 4 w' w.heap.size (fun _ => True) v106 x5_1) ∧ Aside0 (w'.heap[gb101]? = some (.cells #[(.slice A0_0 l0_0.length c0_0), .int .i64 a0_1] 24 (0, 0))) ∧ Aside0 (Below w.heap.size w w'))
 case atStart => exact ⟨(y102), (y105), (0), (qya8_), H', ⟨Nat.le_refl _⟩, ⟨by (with_reducible repeat (first | apply Kd.R_alloc | apply Kd.R_drewN | apply Kd.R_drew)); exact HO104.out⟩, ⟨by (with_reducible repeat (first | apply Kd.R_alloc | apply Kd.R_drewN | apply Kd.R_drew)); exact HO107.out⟩, ⟨qya0_⟩, ⟨qya2_⟩⟩
 case round =>
  clear H'
  try clear c2
  try clear c2b0
  try clear c2b1
  try clear p2
  try clear c3
  try clear c3b0
  try clear c3b1
  try clear c4
  try clear c4b0
  try clear c4b1
  try clear c6
  try clear hcz6_0
  try clear hcz6_1
  try clear hcz9_0
  try clear hcz9_1
  try clear hfz6_0
  try clear hfz6_1
  try clear hfz9_0
  try clear hfz9_1
  obtain ⟨x4_1, x5_1, x6_1, rfl, HA, HK1, HO_4, HO_5, BK101, HB⟩ := hrel
  cases gk with
  | zero => exact absurd HA.out (by simp [grommetref12_uses.l0])
  | succ k1 =>
   have H := HA.out
   clear HA
   simp only [grommetref12_uses.l0] at H
   by_cases c12 : x6_1 < (l0_0.length : Int)
   rotate_left
   ·
    rw [if_neg c12] at H
    have c12b0 : decide (x6_1 < (l0_0.length : Int)) = false := decide_eq_false c12
    clear c12
    simp only [Option.some.injEq, Prod.mk.injEq] at H
    obtain ⟨rfl, rfl⟩ := H
    have hcz49_0 : wr.cell? ⟨gb101, 0, none⟩ = some (.slice A0_0 l0_0.length c0_0) := (blk_cell BK101.out 0).trans rfl
    have hcz49_1 : wr.cell? ⟨gb101, 1, none⟩ = some (.int .i64 a0_1) := (blk_cell BK101.out 1).trans rfl
    have hfz49_0 := blk_frozen BK101.out 0
    have hfz49_1 := blk_frozen BK101.out 1
    go_wp2
    go_ret2
    exact ⟨_, _, by first | rfl | (simp [errW_none, errW_some] <;> rfl) | (simp [*, errW_none, errW_some] <;> rfl), qya6_, qya3_, qya2_⟩
   rw [if_pos c12] at H
   have c12b0 : decide (x6_1 < (l0_0.length : Int)) = true := decide_eq_true c12
   clear c12
   by_cases c13 : 0 ≤ x6_1
   rotate_left
   ·
    rw [if_neg c13] at H
    exact absurd H (by simp)
   rw [if_pos c13] at H
   have c13b0 : decide (0 ≤ x6_1) = true := decide_eq_true c13
   clear c13
   have H' := Aside0.mk H
   clear H
   have hcz14_0 : wr.cell? ⟨gb101, 0, none⟩ = some (.slice A0_0 l0_0.length c0_0) := (blk_cell BK101.out 0).trans rfl
   have hcz14_1 : wr.cell? ⟨gb101, 1, none⟩ = some (.int .i64 a0_1) := (blk_cell BK101.out 1).trans rfl
   have hfz14_0 := blk_frozen BK101.out 0
   have hfz14_1 := blk_frozen BK101.out 1
   have p108 : 0 ≤ (x6_1 : Int) := of_decide_eq_true (qya1_)
   have q108 : x6_1 < (l0_0.length : Int) := of_decide_eq_true (qya1_)
   obtain ⟨ad108, A108_2, c108_2, e108, hx108_0, hx108_1, hx108_2, hl108_2, hi108_2⟩ := at_T45 HR0_0.out x6_1 p108 q108
   have KX108_2 := Aside0.mk hx108_2
   cases e108
   replace hx108_0 := (HB.out.cell (World.block_lt_of_cell? w _ hx108_0)).trans hx108_0
   replace hx108_1 := (HB.out.cell (World.block_lt_of_cell? w _ hx108_1)).trans hx108_1
   replace hx108_2 := (HB.out.cell (World.block_lt_of_cell? w _ hx108_2)).trans hx108_2
   have HR108_2 := Aside0.mk hi108_2
   have HC108_2 := Aside0.mk hl108_2
   clear hi108_2 hl108_2
   replace p108 := eq_true p108
   replace q108 := eq_true q108
   go_wp2_with (first | ((with_reducible refine gate_dst (N := 7) rfl ?_); refine box_event ?hg (N := 7) ?hd (cs := #[.int .i64 0, .string (⟨#[]⟩ : ByteArray), .slice none 0 0]) (t := 45) ?hr ?_; (case hd => rfl); (case hg => rfl); (case hr => first | (go_simp; done) | (go_simp; rfl)); intro gb109 hg w15 hbox hb; have n0_ := Aside0.mk (Kd.R_below (qya6_) hb); have n1_ := Aside0.mk (Kd.R_below (qya3_) hb); have n2_ := Aside0.mk (blk_below (g := gb101) (o := .cells #[.slice (some ad108) l0_0.length c0_0, .int .i64 a0_1] 24 (0, 0)) (qya0_) hb); have n3_ := Aside0.mk (below_step (qya2_) hb); have n4_ := Aside0.mk (hbox); have n5_ := Aside0.mk ((by rw [hg]; exact (below_size (qya2_)) : w.heap.size ≤ gb109)); have n6_ := Aside0.mk ((by rw [hg]; exact (below_size (qya2_)) : w.heap.size ≤ gb109)); have n7_ := Aside0.mk ((by rw [hg]; exact Nat.ne_of_lt (blk_lt (g := gb101) (o := .cells #[.slice (some ad108) l0_0.length c0_0, .int .i64 a0_1] 24 (0, 0)) (qya0_)) : gb101 ≠ gb109)); have n8_ := Aside0.mk ((by rw [hg]; exact Nat.ne_of_gt (blk_lt (g := gb101) (o := .cells #[.slice (some ad108) l0_0.length c0_0, .int .i64 a0_1] 24 (0, 0)) (qya0_)) : gb109 ≠ gb101)); clear HO_4; clear HO_5; clear BK101; clear HB; have HO_4 := n0_; have HO_5 := n1_; have BK101 := n2_; have HB := n3_; have BK109 := n4_; have GW109 := n5_; have GE109 := n6_; have NB101_109 := n7_; have NB109_101 := n8_; clear n0_ n1_ n2_ n3_ n4_ n5_ n6_ n7_ n8_; clear hb hbox hg; have hnb16 := NB109_101.out; have hnc16 := NB101_109.out; have hcz17_0 : w15.cell? ⟨gb109, 0, none⟩ = some (.int .i64 0) := (blk_cell BK109.out 0).trans rfl; have hcz17_1 : w15.cell? ⟨gb109, 1, none⟩ = some (.string (⟨#[]⟩ : ByteArray)) := (blk_cell BK109.out 1).trans rfl; have hcz17_2 : w15.cell? ⟨gb109, 2, none⟩ = some (.slice none 0 0) := (blk_cell BK109.out 2).trans rfl; have hfz17_0 := blk_frozen BK109.out 0; have hfz17_1 := blk_frozen BK109.out 1; have hfz17_2 := blk_frozen BK109.out 2))
   go_loopg [8] k1 (fun kq v8 w' => ∃ (x4_2 : List Int) (x5_2 : List Bool) (x8_2 : Int), v8 = .int .i64 x8_2 ∧ Aside0 (grommetref12_uses.l1 kq x4_2 x5_2 x6_1 x8_2 l0_0 a0_1 ((rd_T45 l0_0 x6_1).f0) ((rd_T45 l0_0 x6_1).f1) ((rd_T45 l0_0 x6_1).f2) = some (r1, r2)) ∧ Aside0 (kq ≤ k1) ∧ Aside0 (Kd.R (Kd.int .i64) 3 w' w.heap.size (fun _ => True) v103 x4_2) ∧ Aside0 (Kd.R Kd.bool 4 w' w.heap.size (fun _ => True) v106 x5_2) ∧ Aside0 (w'.heap[gb101]? = some (.cells #[(.slice (some ad108) l0_0.length c0_0), .int .i64 a0_1] 24 (0, 0))) ∧ Aside0 (w'.heap[gb109]? = some (.cells #[.int .i64 ((rd_T45 l0_0 x6_1).f0), .string ((rd_T45 l0_0 x6_1).f1), (.slice A108_2 ((rd_T45 l0_0 x6_1).f2).length c108_2)] 45 (0, 0))) ∧ Aside0 (Below w.heap.size w w'))
   case atStart => exact ⟨(x4_1), (x5_1), (0), (qya8_), H', ⟨Nat.le_refl _⟩, ⟨by (with_reducible repeat (first | apply Kd.R_alloc | apply Kd.R_drewN | apply Kd.R_drew)); exact Kd.R_mono (Kd.R_far (p := ⟨gb109, 2, none⟩) (Kd.R_far (p := ⟨gb109, 1, none⟩) (Kd.R_far (p := ⟨gb109, 0, none⟩) (Kd.R_types HO_4.out BK109.out (by decide)) (fun _ hk => hk.2) (.int .i64 ((rd_T45 l0_0 x6_1).f0))) (fun _ hk => hk.2) (.string ((rd_T45 l0_0 x6_1).f1))) (fun _ hk => hk.2) (.slice A108_2 ((rd_T45 l0_0 x6_1).f2).length c108_2)) (fun _ hk => trivial)⟩, ⟨by (with_reducible repeat (first | apply Kd.R_alloc | apply Kd.R_drewN | apply Kd.R_drew)); exact Kd.R_mono (Kd.R_far (p := ⟨gb109, 2, none⟩) (Kd.R_far (p := ⟨gb109, 1, none⟩) (Kd.R_far (p := ⟨gb109, 0, none⟩) (Kd.R_types HO_5.out BK109.out (by decide)) (fun _ hk => hk.2) (.int .i64 ((rd_T45 l0_0 x6_1).f0))) (fun _ hk => hk.2) (.string ((rd_T45 l0_0 x6_1).f1))) (fun _ hk => hk.2) (.slice A108_2 ((rd_T45 l0_0 x6_1).f2).length c108_2)) (fun _ hk => trivial)⟩, ⟨by (with_reducible repeat (first | refine blk_drewN ?_ _ | refine blk_drew ?_ | refine blk_alloc ?_ _)); refine blk_far ?_ NB101_109.out _; (with_reducible repeat (first | refine blk_drewN ?_ _ | refine blk_drew ?_ | refine blk_alloc ?_ _)); refine blk_far ?_ NB101_109.out _; (with_reducible repeat (first | refine blk_drewN ?_ _ | refine blk_drew ?_ | refine blk_alloc ?_ _)); refine blk_far ?_ NB101_109.out _; (with_reducible repeat (first | refine blk_drewN ?_ _ | refine blk_drew ?_ | refine blk_alloc ?_ _)); exact BK101.out⟩, ⟨by (with_reducible repeat (first | refine blk_drewN ?_ _ | refine blk_drew ?_ | refine blk_alloc ?_ _)); refine blk_put (cs := #[.int .i64 ((rd_T45 l0_0 x6_1).f0), .string ((rd_T45 l0_0 x6_1).f1), .slice none 0 0]) ?_ 2 _ rfl; (with_reducible repeat (first | refine blk_drewN ?_ _ | refine blk_drew ?_ | refine blk_alloc ?_ _)); refine blk_put (cs := #[.int .i64 ((rd_T45 l0_0 x6_1).f0), .string (⟨#[]⟩ : ByteArray), .slice none 0 0]) ?_ 1 _ rfl; (with_reducible repeat (first | refine blk_drewN ?_ _ | refine blk_drew ?_ | refine blk_alloc ?_ _)); refine blk_put (cs := #[.int .i64 0, .string (⟨#[]⟩ : ByteArray), .slice none 0 0]) ?_ 0 _ rfl; (with_reducible repeat (first | refine blk_drewN ?_ _ | refine blk_drew ?_ | refine blk_alloc ?_ _)); exact BK109.out⟩, ⟨qya4_⟩⟩
   case round =>
    clear H'
    try clear c1
    try clear p1
    try clear q1
    try clear hx1
    try clear c2
    try clear c2b0
    try clear c2b1
    try clear p2
    try clear c3
    try clear c3b0
    try clear c3b1
    try clear c4
    try clear c4b0
    try clear c4b1
    try clear c6
    try clear c10
    try clear p10
    try clear q10
    try clear hx10
    try clear c12
    try clear c12b0
    try clear c13
    try clear c13b0
    try clear c16
    try clear hcz14_0
    try clear hcz14_1
    try clear hcz17_0
    try clear hcz17_1
    try clear hcz17_2
    try clear hcz6_0
    try clear hcz6_1
    try clear hcz9_0
    try clear hcz9_1
    try clear hfz14_0
    try clear hfz14_1
    try clear hfz17_0
    try clear hfz17_1
    try clear hfz17_2
    try clear hfz6_0
    try clear hfz6_1
    try clear hfz9_0
    try clear hfz9_1
    try clear hx108_0
    try clear hx108_1
    try clear hx108_2
    try clear p108
    try clear p2
    try clear q108
    obtain ⟨x4_2, x5_2, x8_2, rfl, HA, HK2, HO_4, HO_5, BK101, BK109, HB⟩ := hrel
    cases gk with
    | zero => exact absurd HA.out (by simp [grommetref12_uses.l1])
    | succ k2 =>
     have H := HA.out
     clear HA
     simp only [grommetref12_uses.l1] at H
     by_cases c18 : x8_2 < (((rd_T45 l0_0 x6_1).f2).length : Int)
     rotate_left
     ·
      rw [if_neg c18] at H
      have c18b0 : decide (x8_2 < (((rd_T45 l0_0 x6_1).f2).length : Int)) = false := decide_eq_false c18
      clear c18
      have H' := Aside0.mk H
      clear H
      have hnb47 := NB109_101.out
      have hnc47 := NB101_109.out
      have hcz48_0 : wr.cell? ⟨gb109, 0, none⟩ = some (.int .i64 ((rd_T45 l0_0 x6_1).f0)) := (blk_cell BK109.out 0).trans rfl
      have hcz48_1 : wr.cell? ⟨gb109, 1, none⟩ = some (.string ((rd_T45 l0_0 x6_1).f1)) := (blk_cell BK109.out 1).trans rfl
      have hcz48_2 : wr.cell? ⟨gb109, 2, none⟩ = some (.slice A108_2 ((rd_T45 l0_0 x6_1).f2).length c108_2) := (blk_cell BK109.out 2).trans rfl
      have hfz48_0 := blk_frozen BK109.out 0
      have hfz48_1 := blk_frozen BK109.out 1
      have hfz48_2 := blk_frozen BK109.out 2
      go_wp2
      go_roundg k2
      case measure => have := HK1.out; have := HK2.out; omega
      case rel => exact ⟨(x4_2), (x5_2), (wrap64 (x6_1 + 1)), (qya8_), H', ⟨qya9_⟩, ⟨qya6_⟩, ⟨qya3_⟩, ⟨qya0_⟩, ⟨qya4_⟩⟩
     rw [if_pos c18] at H
     have c18b0 : decide (x8_2 < (((rd_T45 l0_0 x6_1).f2).length : Int)) = true := decide_eq_true c18
     clear c18
     by_cases c19 : 0 ≤ x8_2
     rotate_left
     ·
      rw [if_neg c19] at H
      exact absurd H (by simp)
     rw [if_pos c19] at H
     have c19b0 : decide (0 ≤ x8_2) = true := decide_eq_true c19
     clear c19
     by_cases c20 : 0 ≤ (rd ((rd_T45 l0_0 x6_1).f2) x8_2)
     rotate_left
     ·
      rw [if_neg c20] at H
      exact absurd H (by simp)
     rw [if_pos c20] at H
     have c20b0 : decide (0 ≤ (rd ((rd_T45 l0_0 x6_1).f2) x8_2)) = true := decide_eq_true c20
     clear c20
     by_cases c21 : (rd ((rd_T45 l0_0 x6_1).f2) x8_2) < (x4_2.length : Int)
     rotate_left
     ·
      rw [if_neg c21] at H
      exact absurd H (by simp)
     rw [if_pos c21] at H
     have c21b0 : decide ((rd ((rd_T45 l0_0 x6_1).f2) x8_2) < (x4_2.length : Int)) = true := decide_eq_true c21
     clear c21
     obtain ⟨y112, hy112⟩ : ∃ y_ : List Int, y_ = (x4_2.set ((rd ((rd_T45 l0_0 x6_1).f2) x8_2) : Int).toNat (wrap64 ((rd x4_2 (rd ((rd_T45 l0_0 x6_1).f2) x8_2)) + 1))) := ⟨_, rfl⟩
     replace H : (if ((rd_T45 l0_0 x6_1).f0) = 6 then (if (Int.tmod x8_2 2) = 0 then (if (rd ((rd_T45 l0_0 x6_1).f2) x8_2) < (x5_2.length : Int) then (grommetref12_uses.l1 k2 y112 (x5_2.set ((rd ((rd_T45 l0_0 x6_1).f2) x8_2) : Int).toNat true) x6_1 (wrap64 (x8_2 + 1)) l0_0 a0_1 ((rd_T45 l0_0 x6_1).f0) ((rd_T45 l0_0 x6_1).f1) ((rd_T45 l0_0 x6_1).f2)) else (none)) else (grommetref12_uses.l1 k2 y112 x5_2 x6_1 (wrap64 (x8_2 + 1)) l0_0 a0_1 ((rd_T45 l0_0 x6_1).f0) ((rd_T45 l0_0 x6_1).f1) ((rd_T45 l0_0 x6_1).f2))) else (grommetref12_uses.l1 k2 y112 x5_2 x6_1 (wrap64 (x8_2 + 1)) l0_0 a0_1 ((rd_T45 l0_0 x6_1).f0) ((rd_T45 l0_0 x6_1).f1) ((rd_T45 l0_0 x6_1).f2))) = some (r1, r2) := by first | (rw [hy112]; with_reducible exact H) | (have H2_ := (Option.bind_some _ _).symm.trans H; rw [hy112]; with_reducible exact H2_) | (have H2_ := (Option.bind_some _ _).symm.trans H; with_reducible exact H2_) | with_reducible exact H | (rw [hy112]; exact H) | exact H
     have Ny112 := Aside0.mk hy112
     clear hy112
     by_cases c23 : ((rd_T45 l0_0 x6_1).f0) = 6
     rotate_left
     ·
      rw [if_neg c23] at H
      have c23b0 : (((rd_T45 l0_0 x6_1).f0) == 6) = false := beq_eq_false_iff_ne.mpr c23
      have c23b1 : (((rd_T45 l0_0 x6_1).f0) != 6) = true := bne_iff_ne.mpr c23
      have H' := Aside0.mk H
      clear H
      have hnb41 := NB109_101.out
      have hnc41 := NB101_109.out
      have hcz42_0 : wr.cell? ⟨gb109, 0, none⟩ = some (.int .i64 ((rd_T45 l0_0 x6_1).f0)) := (blk_cell BK109.out 0).trans rfl
      have hcz42_1 : wr.cell? ⟨gb109, 1, none⟩ = some (.string ((rd_T45 l0_0 x6_1).f1)) := (blk_cell BK109.out 1).trans rfl
      have hcz42_2 : wr.cell? ⟨gb109, 2, none⟩ = some (.slice A108_2 ((rd_T45 l0_0 x6_1).f2).length c108_2) := (blk_cell BK109.out 2).trans rfl
      have hfz42_0 := blk_frozen BK109.out 0
      have hfz42_1 := blk_frozen BK109.out 1
      have hfz42_2 := blk_frozen BK109.out 2
      have p110 : 0 ≤ (x8_2 : Int) := of_decide_eq_true (qya1_)
      have q110 : x8_2 < (((rd_T45 l0_0 x6_1).f2).length : Int) := of_decide_eq_true (qya1_)
      obtain ⟨ad110, e110, hx110_0⟩ := Kd.at_int HR108_2.out x8_2 p110 q110
      cases e110
      replace hx110_0 := (HB.out.cell (World.block_lt_of_cell? w _ hx110_0)).trans hx110_0
      replace p110 := eq_true p110
      replace q110 := eq_true q110
      obtain ⟨Ao43, co43, eo43⟩ := Kd.R_slice HO_4.out
      subst eo43
      have p111 : 0 ≤ ((rd ((rd_T45 l0_0 x6_1).f2) x8_2) : Int) := of_decide_eq_true (qya1_)
      have q111 : (rd ((rd_T45 l0_0 x6_1).f2) x8_2) < (x4_2.length : Int) := of_decide_eq_true (qya1_)
      obtain ⟨ad111, e111, hx111_0⟩ := Kd.at_int (Kd.R_reads' HO_4.out).2.2 (rd ((rd_T45 l0_0 x6_1).f2) x8_2) p111 q111
      cases e111
      replace p111 := eq_true p111
      replace q111 := eq_true q111
      have p22 : 0 ≤ ((rd ((rd_T45 l0_0 x6_1).f2) x8_2) : Int) := of_decide_eq_true (qya1_)
      have q22 : ((rd ((rd_T45 l0_0 x6_1).f2) x8_2) : Int) < ((x4_2.length : Int) : Int) := of_decide_eq_true (qya1_)
      obtain ⟨go22, co22, eo22, gb22, gl22, cl22, HG22⟩ := Kd.R_form HO_4.out (by omega)
      (first | cases eo22 | (injection eo22 with ea_ en_ ec_; (first | subst ea_ | (injection ea_ with ea_; subst ea_)); subst ec_; clear en_))
      have GB22 := Aside0.mk gb22
      have GG22 := Aside0.mk HG22
      clear gb22 gl22 HG22
      (first | simp only [add_plain] at hx111_0 | skip)
      obtain ⟨hx22_0, hf22_0⟩ := Kd.R_celln 0 HO_4.out ((rd ((rd_T45 l0_0 x6_1).f2) x8_2) : Int) p22 q22
      replace p22 := eq_true p22
      replace q22 := eq_true q22
      have HP44 := Kd.R_putg HO_4.out ((rd ((rd_T45 l0_0 x6_1).f2) x8_2) : Int) (wrap64 ((rd x4_2 (rd ((rd_T45 l0_0 x6_1).f2) x8_2)) + 1))
      go_wp2_with (first | ((with_reducible refine gate_store (t := 3) (p := 45) rfl ?_); refine store_event (t := 3) (p := 45) (v := ?vo_w45) (w1 := (wr.setCell ⟨go22, ((rd ((rd_T45 l0_0 x6_1).f2) x8_2) : Int).toNat, none⟩ (.int .i64 (wrap64 ((rd x4_2 (rd ((rd_T45 l0_0 x6_1).f2) x8_2)) + 1))))) ?hg ?ho ?hn ?hr ?_; (case ho => rfl); (case hg => rfl); (case hn => rfl); (case hr => first | (go_simp; done) | (go_simp; rfl)); intro w45 hw; have hg : wr.grownBy w45 (some go22) := (by rw [hw]; exact HP44.2); have hp_ : Kd.R (Kd.int .i64) 3 w45 w.heap.size (fun _ => True) (.slice (some ⟨go22, 0, none⟩) x4_2.length co43) y112 := (by rw [hw, Ny112.out]; exact HP44.1); clear HP44; have n0_ := Aside0.mk (hp_); have n1_ := Aside0.mk (Kd.R_over' (v := (.slice (some ⟨go22, 0, none⟩) x4_2.length co43)) (qya3_) (Kd.R_typed HO_4.out) (by decide) hg); have n2_ := Aside0.mk (blk_grown (g := gb101) (o := .cells #[.slice (some ad108) l0_0.length c0_0, .int .i64 a0_1] 24 (0, 0)) (qya0_) hg (Kd.R_ne HO_4.out BK101.out (by decide))); have n3_ := Aside0.mk (blk_grown (g := gb109) (o := .cells #[.int .i64 ((rd_T45 l0_0 x6_1).f0), .string ((rd_T45 l0_0 x6_1).f1), .slice (some ad110) ((rd_T45 l0_0 x6_1).f2).length c108_2] 45 (0, 0)) (qya5_) hg (Kd.R_ne HO_4.out BK109.out (by decide))); have n4_ := Aside0.mk ((by rw [hw]; exact below_set (HB.out) GB22.out : Below w.heap.size w w45)); clear HO_4; clear HO_5; clear BK101; clear BK109; clear HB; have HO_4 := n0_; have HO_5 := n1_; have BK101 := n2_; have BK109 := n3_; have HB := n4_; clear n0_ n1_ n2_ n3_ n4_; clear hg hw hp_; have hcz46_0 : w45.cell? ⟨gb109, 0, none⟩ = some (.int .i64 ((rd_T45 l0_0 x6_1).f0)) := (blk_cell BK109.out 0).trans rfl; have hcz46_1 : w45.cell? ⟨gb109, 1, none⟩ = some (.string ((rd_T45 l0_0 x6_1).f1)) := (blk_cell BK109.out 1).trans rfl; have hcz46_2 : w45.cell? ⟨gb109, 2, none⟩ = some (.slice (some ad110) ((rd_T45 l0_0 x6_1).f2).length c108_2) := (blk_cell BK109.out 2).trans rfl; have hfz46_0 := blk_frozen BK109.out 0; have hfz46_1 := blk_frozen BK109.out 1; have hfz46_2 := blk_frozen BK109.out 2))
      go_roundg k2
      case measure => have := HK1.out; have := HK2.out; omega
      case rel => exact ⟨(y112), (x5_2), (wrap64 (x8_2 + 1)), (qya8_), H', ⟨qya9_⟩, ⟨qya6_⟩, ⟨qya3_⟩, ⟨qya0_⟩, ⟨qya5_⟩, ⟨qya4_⟩⟩
     rw [if_pos c23] at H
     have c23b0 : (((rd_T45 l0_0 x6_1).f0) == 6) = true := beq_iff_eq.mpr c23
     have c23b1 : (((rd_T45 l0_0 x6_1).f0) != 6) = false := bne_eq_false_iff_eq.mpr c23
     clear c23
     by_cases c24 : (Int.tmod x8_2 2) = 0
     rotate_left
     ·
      rw [if_neg c24] at H
      have c24b0 : ((Int.tmod x8_2 2) == 0) = false := beq_eq_false_iff_ne.mpr c24
      have c24b1 : ((Int.tmod x8_2 2) != 0) = true := bne_iff_ne.mpr c24
      have H' := Aside0.mk H
      clear H
      have hnb35 := NB109_101.out
      have hnc35 := NB101_109.out
      have hcz36_0 : wr.cell? ⟨gb109, 0, none⟩ = some (.int .i64 ((rd_T45 l0_0 x6_1).f0)) := (blk_cell BK109.out 0).trans rfl
      have hcz36_1 : wr.cell? ⟨gb109, 1, none⟩ = some (.string ((rd_T45 l0_0 x6_1).f1)) := (blk_cell BK109.out 1).trans rfl
      have hcz36_2 : wr.cell? ⟨gb109, 2, none⟩ = some (.slice A108_2 ((rd_T45 l0_0 x6_1).f2).length c108_2) := (blk_cell BK109.out 2).trans rfl
      have hfz36_0 := blk_frozen BK109.out 0
      have hfz36_1 := blk_frozen BK109.out 1
      have hfz36_2 := blk_frozen BK109.out 2
      have p110 : 0 ≤ (x8_2 : Int) := of_decide_eq_true (qya1_)
      have q110 : x8_2 < (((rd_T45 l0_0 x6_1).f2).length : Int) := of_decide_eq_true (qya1_)
      obtain ⟨ad110, e110, hx110_0⟩ := Kd.at_int HR108_2.out x8_2 p110 q110
      cases e110
      replace hx110_0 := (HB.out.cell (World.block_lt_of_cell? w _ hx110_0)).trans hx110_0
      replace p110 := eq_true p110
      replace q110 := eq_true q110
      obtain ⟨Ao37, co37, eo37⟩ := Kd.R_slice HO_4.out
      subst eo37
      have p111 : 0 ≤ ((rd ((rd_T45 l0_0 x6_1).f2) x8_2) : Int) := of_decide_eq_true (qya1_)
      have q111 : (rd ((rd_T45 l0_0 x6_1).f2) x8_2) < (x4_2.length : Int) := of_decide_eq_true (qya1_)
      obtain ⟨ad111, e111, hx111_0⟩ := Kd.at_int (Kd.R_reads' HO_4.out).2.2 (rd ((rd_T45 l0_0 x6_1).f2) x8_2) p111 q111
      cases e111
      replace p111 := eq_true p111
      replace q111 := eq_true q111
      have p22 : 0 ≤ ((rd ((rd_T45 l0_0 x6_1).f2) x8_2) : Int) := of_decide_eq_true (qya1_)
      have q22 : ((rd ((rd_T45 l0_0 x6_1).f2) x8_2) : Int) < ((x4_2.length : Int) : Int) := of_decide_eq_true (qya1_)
      obtain ⟨go22, co22, eo22, gb22, gl22, cl22, HG22⟩ := Kd.R_form HO_4.out (by omega)
      (first | cases eo22 | (injection eo22 with ea_ en_ ec_; (first | subst ea_ | (injection ea_ with ea_; subst ea_)); subst ec_; clear en_))
      have GB22 := Aside0.mk gb22
      have GG22 := Aside0.mk HG22
      clear gb22 gl22 HG22
      (first | simp only [add_plain] at hx111_0 | skip)
      obtain ⟨hx22_0, hf22_0⟩ := Kd.R_celln 0 HO_4.out ((rd ((rd_T45 l0_0 x6_1).f2) x8_2) : Int) p22 q22
      replace p22 := eq_true p22
      replace q22 := eq_true q22
      have HP38 := Kd.R_putg HO_4.out ((rd ((rd_T45 l0_0 x6_1).f2) x8_2) : Int) (wrap64 ((rd x4_2 (rd ((rd_T45 l0_0 x6_1).f2) x8_2)) + 1))
      go_wp2_with (first | ((with_reducible refine gate_store (t := 3) (p := 45) rfl ?_); refine store_event (t := 3) (p := 45) (v := ?vo_w39) (w1 := (wr.setCell ⟨go22, ((rd ((rd_T45 l0_0 x6_1).f2) x8_2) : Int).toNat, none⟩ (.int .i64 (wrap64 ((rd x4_2 (rd ((rd_T45 l0_0 x6_1).f2) x8_2)) + 1))))) ?hg ?ho ?hn ?hr ?_; (case ho => rfl); (case hg => rfl); (case hn => rfl); (case hr => first | (go_simp; done) | (go_simp; rfl)); intro w39 hw; have hg : wr.grownBy w39 (some go22) := (by rw [hw]; exact HP38.2); have hp_ : Kd.R (Kd.int .i64) 3 w39 w.heap.size (fun _ => True) (.slice (some ⟨go22, 0, none⟩) x4_2.length co37) y112 := (by rw [hw, Ny112.out]; exact HP38.1); clear HP38; have n0_ := Aside0.mk (hp_); have n1_ := Aside0.mk (Kd.R_over' (v := (.slice (some ⟨go22, 0, none⟩) x4_2.length co37)) (qya3_) (Kd.R_typed HO_4.out) (by decide) hg); have n2_ := Aside0.mk (blk_grown (g := gb101) (o := .cells #[.slice (some ad108) l0_0.length c0_0, .int .i64 a0_1] 24 (0, 0)) (qya0_) hg (Kd.R_ne HO_4.out BK101.out (by decide))); have n3_ := Aside0.mk (blk_grown (g := gb109) (o := .cells #[.int .i64 ((rd_T45 l0_0 x6_1).f0), .string ((rd_T45 l0_0 x6_1).f1), .slice (some ad110) ((rd_T45 l0_0 x6_1).f2).length c108_2] 45 (0, 0)) (qya5_) hg (Kd.R_ne HO_4.out BK109.out (by decide))); have n4_ := Aside0.mk ((by rw [hw]; exact below_set (HB.out) GB22.out : Below w.heap.size w w39)); clear HO_4; clear HO_5; clear BK101; clear BK109; clear HB; have HO_4 := n0_; have HO_5 := n1_; have BK101 := n2_; have BK109 := n3_; have HB := n4_; clear n0_ n1_ n2_ n3_ n4_; clear hg hw hp_; have hcz40_0 : w39.cell? ⟨gb109, 0, none⟩ = some (.int .i64 ((rd_T45 l0_0 x6_1).f0)) := (blk_cell BK109.out 0).trans rfl; have hcz40_1 : w39.cell? ⟨gb109, 1, none⟩ = some (.string ((rd_T45 l0_0 x6_1).f1)) := (blk_cell BK109.out 1).trans rfl; have hcz40_2 : w39.cell? ⟨gb109, 2, none⟩ = some (.slice (some ad110) ((rd_T45 l0_0 x6_1).f2).length c108_2) := (blk_cell BK109.out 2).trans rfl; have hfz40_0 := blk_frozen BK109.out 0; have hfz40_1 := blk_frozen BK109.out 1; have hfz40_2 := blk_frozen BK109.out 2))
      go_roundg k2
      case measure => have := HK1.out; have := HK2.out; omega
      case rel => exact ⟨(y112), (x5_2), (wrap64 (x8_2 + 1)), (qya8_), H', ⟨qya9_⟩, ⟨qya6_⟩, ⟨qya3_⟩, ⟨qya0_⟩, ⟨qya5_⟩, ⟨qya4_⟩⟩
     rw [if_pos c24] at H
     have c24b0 : ((Int.tmod x8_2 2) == 0) = true := beq_iff_eq.mpr c24
     have c24b1 : ((Int.tmod x8_2 2) != 0) = false := bne_eq_false_iff_eq.mpr c24
     clear c24
     by_cases c25 : (rd ((rd_T45 l0_0 x6_1).f2) x8_2) < (x5_2.length : Int)
     rotate_left
     ·
      rw [if_neg c25] at H
      exact absurd H (by simp)
     rw [if_pos c25] at H
     have c25b0 : decide ((rd ((rd_T45 l0_0 x6_1).f2) x8_2) < (x5_2.length : Int)) = true := decide_eq_true c25
     clear c25
     obtain ⟨y114, hy114⟩ : ∃ y_ : List Bool, y_ = (x5_2.set ((rd ((rd_T45 l0_0 x6_1).f2) x8_2) : Int).toNat true) := ⟨_, rfl⟩
     replace H : (grommetref12_uses.l1 k2 y112 y114 x6_1 (wrap64 (x8_2 + 1)) l0_0 a0_1 ((rd_T45 l0_0 x6_1).f0) ((rd_T45 l0_0 x6_1).f1) ((rd_T45 l0_0 x6_1).f2)) = some (r1, r2) := by first | (rw [hy114]; with_reducible exact H) | (have H2_ := (Option.bind_some _ _).symm.trans H; rw [hy114]; with_reducible exact H2_) | (have H2_ := (Option.bind_some _ _).symm.trans H; with_reducible exact H2_) | with_reducible exact H | (rw [hy114]; exact H) | exact H
     have Ny114 := Aside0.mk hy114
     clear hy114
     have H' := Aside0.mk H
     clear H
     have hnb27 := NB109_101.out
     have hnc27 := NB101_109.out
     have hcz28_0 : wr.cell? ⟨gb109, 0, none⟩ = some (.int .i64 ((rd_T45 l0_0 x6_1).f0)) := (blk_cell BK109.out 0).trans rfl
     have hcz28_1 : wr.cell? ⟨gb109, 1, none⟩ = some (.string ((rd_T45 l0_0 x6_1).f1)) := (blk_cell BK109.out 1).trans rfl
     have hcz28_2 : wr.cell? ⟨gb109, 2, none⟩ = some (.slice A108_2 ((rd_T45 l0_0 x6_1).f2).length c108_2) := (blk_cell BK109.out 2).trans rfl
     have hfz28_0 := blk_frozen BK109.out 0
     have hfz28_1 := blk_frozen BK109.out 1
     have hfz28_2 := blk_frozen BK109.out 2
     have p110 : 0 ≤ (x8_2 : Int) := of_decide_eq_true (qya1_)
     have q110 : x8_2 < (((rd_T45 l0_0 x6_1).f2).length : Int) := of_decide_eq_true (qya1_)
     obtain ⟨ad110, e110, hx110_0⟩ := Kd.at_int HR108_2.out x8_2 p110 q110
     cases e110
     replace hx110_0 := (HB.out.cell (World.block_lt_of_cell? w _ hx110_0)).trans hx110_0
     replace p110 := eq_true p110
     replace q110 := eq_true q110
     obtain ⟨Ao29, co29, eo29⟩ := Kd.R_slice HO_4.out
     subst eo29
     have p111 : 0 ≤ ((rd ((rd_T45 l0_0 x6_1).f2) x8_2) : Int) := of_decide_eq_true (qya1_)
     have q111 : (rd ((rd_T45 l0_0 x6_1).f2) x8_2) < (x4_2.length : Int) := of_decide_eq_true (qya1_)
     obtain ⟨ad111, e111, hx111_0⟩ := Kd.at_int (Kd.R_reads' HO_4.out).2.2 (rd ((rd_T45 l0_0 x6_1).f2) x8_2) p111 q111
     cases e111
     replace p111 := eq_true p111
     replace q111 := eq_true q111
     have p22 : 0 ≤ ((rd ((rd_T45 l0_0 x6_1).f2) x8_2) : Int) := of_decide_eq_true (qya1_)
     have q22 : ((rd ((rd_T45 l0_0 x6_1).f2) x8_2) : Int) < ((x4_2.length : Int) : Int) := of_decide_eq_true (qya1_)
     obtain ⟨go22, co22, eo22, gb22, gl22, cl22, HG22⟩ := Kd.R_form HO_4.out (by omega)
     (first | cases eo22 | (injection eo22 with ea_ en_ ec_; (first | subst ea_ | (injection ea_ with ea_; subst ea_)); subst ec_; clear en_))
     have GB22 := Aside0.mk gb22
     have GG22 := Aside0.mk HG22
     clear gb22 gl22 HG22
     (first | simp only [add_plain] at hx111_0 | skip)
     obtain ⟨hx22_0, hf22_0⟩ := Kd.R_celln 0 HO_4.out ((rd ((rd_T45 l0_0 x6_1).f2) x8_2) : Int) p22 q22
     replace p22 := eq_true p22
     replace q22 := eq_true q22
     have HP30 := Kd.R_putg HO_4.out ((rd ((rd_T45 l0_0 x6_1).f2) x8_2) : Int) (wrap64 ((rd x4_2 (rd ((rd_T45 l0_0 x6_1).f2) x8_2)) + 1))
     go_wp2_with (first | ((with_reducible refine gate_store (t := 3) (p := 45) rfl ?_); refine store_event (t := 3) (p := 45) (v := ?vo_w31) (w1 := (wr.setCell ⟨go22, ((rd ((rd_T45 l0_0 x6_1).f2) x8_2) : Int).toNat, none⟩ (.int .i64 (wrap64 ((rd x4_2 (rd ((rd_T45 l0_0 x6_1).f2) x8_2)) + 1))))) ?hg ?ho ?hn ?hr ?_; (case ho => rfl); (case hg => rfl); (case hn => rfl); (case hr => first | (go_simp; done) | (go_simp; rfl)); intro w31 hw; have hg : wr.grownBy w31 (some go22) := (by rw [hw]; exact HP30.2); have hp_ : Kd.R (Kd.int .i64) 3 w31 w.heap.size (fun _ => True) (.slice (some ⟨go22, 0, none⟩) x4_2.length co29) y112 := (by rw [hw, Ny112.out]; exact HP30.1); clear HP30; have n0_ := Aside0.mk (hp_); have n1_ := Aside0.mk (Kd.R_over' (v := (.slice (some ⟨go22, 0, none⟩) x4_2.length co29)) (qya3_) (Kd.R_typed HO_4.out) (by decide) hg); have n2_ := Aside0.mk (blk_grown (g := gb101) (o := .cells #[.slice (some ad108) l0_0.length c0_0, .int .i64 a0_1] 24 (0, 0)) (qya0_) hg (Kd.R_ne HO_4.out BK101.out (by decide))); have n3_ := Aside0.mk (blk_grown (g := gb109) (o := .cells #[.int .i64 ((rd_T45 l0_0 x6_1).f0), .string ((rd_T45 l0_0 x6_1).f1), .slice (some ad110) ((rd_T45 l0_0 x6_1).f2).length c108_2] 45 (0, 0)) (qya5_) hg (Kd.R_ne HO_4.out BK109.out (by decide))); have n4_ := Aside0.mk ((by rw [hw]; exact below_set (HB.out) GB22.out : Below w.heap.size w w31)); clear HO_4; clear HO_5; clear BK101; clear BK109; clear HB; have HO_4 := n0_; have HO_5 := n1_; have BK101 := n2_; have BK109 := n3_; have HB := n4_; clear n0_ n1_ n2_ n3_ n4_; clear hg hw hp_; have hcz32_0 : w31.cell? ⟨gb109, 0, none⟩ = some (.int .i64 ((rd_T45 l0_0 x6_1).f0)) := (blk_cell BK109.out 0).trans rfl; have hcz32_1 : w31.cell? ⟨gb109, 1, none⟩ = some (.string ((rd_T45 l0_0 x6_1).f1)) := (blk_cell BK109.out 1).trans rfl; have hcz32_2 : w31.cell? ⟨gb109, 2, none⟩ = some (.slice (some ad110) ((rd_T45 l0_0 x6_1).f2).length c108_2) := (blk_cell BK109.out 2).trans rfl; have hfz32_0 := blk_frozen BK109.out 0; have hfz32_1 := blk_frozen BK109.out 1; have hfz32_2 := blk_frozen BK109.out 2; have p113 : 0 ≤ (x8_2 : Int) := of_decide_eq_true (qya1_); have q113 : x8_2 < (((rd_T45 l0_0 x6_1).f2).length : Int) := of_decide_eq_true (qya1_); obtain ⟨ad113, e113, hx113_0⟩ := Kd.at_int HR108_2.out x8_2 p113 q113; obtain rfl : ad110 = ad113 := (by injection e113); replace hx113_0 := (HB.out.cell (World.block_lt_of_cell? w _ hx113_0)).trans hx113_0; replace p113 := eq_true p113; replace q113 := eq_true q113; have p26 : 0 ≤ ((rd ((rd_T45 l0_0 x6_1).f2) x8_2) : Int) := of_decide_eq_true (qya1_); have q26 : ((rd ((rd_T45 l0_0 x6_1).f2) x8_2) : Int) < ((x5_2.length : Int) : Int) := of_decide_eq_true (qya1_); obtain ⟨go26, co26, eo26, gb26, gl26, cl26, HG26⟩ := Kd.R_form HO_5.out (by omega); (first | cases eo26 | (injection eo26 with ea_ en_ ec_; (first | subst ea_ | (injection ea_ with ea_; subst ea_)); subst ec_; clear en_)); have GB26 := Aside0.mk gb26; have GG26 := Aside0.mk HG26; clear gb26 gl26 HG26; obtain ⟨hx26_0, hf26_0⟩ := Kd.R_celln false HO_5.out ((rd ((rd_T45 l0_0 x6_1).f2) x8_2) : Int) p26 q26; replace p26 := eq_true p26; replace q26 := eq_true q26; obtain ⟨hy33_, hz33_⟩ := Kd.R_celln false HO_5.out ((rd ((rd_T45 l0_0 x6_1).f2) x8_2) : Int) (of_decide_eq_true (qya1_)) (of_decide_eq_true (qya1_)); have HP33 := Kd.R_putg HO_5.out ((rd ((rd_T45 l0_0 x6_1).f2) x8_2) : Int) true) | ((with_reducible refine gate_store (t := 4) (p := 60) rfl ?_); refine store_event (t := 4) (p := 60) (v := ?vo_w34) (w1 := (w31.setCell ⟨go26, ((rd ((rd_T45 l0_0 x6_1).f2) x8_2) : Int).toNat, none⟩ (.bool true))) ?hg ?ho ?hn ?hr ?_; (case ho => rfl); (case hg => rfl); (case hn => rfl); (case hr => first | (go_simp; done) | (go_simp; rfl)); intro w34 hw; have hg : w31.grownBy w34 (some go26) := (by rw [hw]; exact HP33.2); have hp_ : Kd.R Kd.bool 4 w34 w.heap.size (fun _ => True) (.slice (some ⟨go26, 0, none⟩) x5_2.length co26) y114 := (by rw [hw, Ny114.out]; exact HP33.1); clear HP33; have n0_ := Aside0.mk (Kd.R_over' (v := (.slice (some ⟨go26, 0, none⟩) x5_2.length co26)) (qya6_) (Kd.R_typed HO_5.out) (by decide) hg); have n1_ := Aside0.mk (hp_); have n2_ := Aside0.mk (blk_grown (g := gb101) (o := .cells #[.slice (some ad108) l0_0.length c0_0, .int .i64 a0_1] 24 (0, 0)) (qya0_) hg (Kd.R_ne HO_5.out BK101.out (by decide))); have n3_ := Aside0.mk (blk_grown (g := gb109) (o := .cells #[.int .i64 ((rd_T45 l0_0 x6_1).f0), .string ((rd_T45 l0_0 x6_1).f1), .slice (some ad110) ((rd_T45 l0_0 x6_1).f2).length c108_2] 45 (0, 0)) (qya5_) hg (Kd.R_ne HO_5.out BK109.out (by decide))); have n4_ := Aside0.mk ((by rw [hw]; exact below_set (HB.out) GB26.out : Below w.heap.size w w34)); clear HO_4; clear HO_5; clear BK101; clear BK109; clear HB; have HO_4 := n0_; have HO_5 := n1_; have BK101 := n2_; have BK109 := n3_; have HB := n4_; clear n0_ n1_ n2_ n3_ n4_; clear hg hw hp_))
     go_roundg k2
     case measure => have := HK1.out; have := HK2.out; omega
     case rel => exact ⟨(y112), (y114), (wrap64 (x8_2 + 1)), (qya8_), H', ⟨qya9_⟩, ⟨qya6_⟩, ⟨qya3_⟩, ⟨qya0_⟩, ⟨qya5_⟩, ⟨qya4_⟩⟩
end Go.Proofs.YtnjcpoojgmpmeaaGreatDoor.PX
namespace Go.Proofs.YtnjcpoojgmpmeaaGreatDoor.Nums
open RowKit
theorem parse_append : ∀ (l r : List UInt8) (acc a : Nat), Lib.parseUint10 acc l = .ok a → Lib.parseUint10 acc (l ++ r) = Lib.parseUint10 a r
 | [], r, acc, a, h => by
  simp only [Lib.parseUint10] at h
  injection h with h
  rw [h]; rfl
 | c :: l, r, acc, a, h => by
  simp only [List.cons_append, Lib.parseUint10] at h ⊢
  by_cases h1 : 48 ≤ c.toNat ∧ c.toNat ≤ 57
  rotate_left
  · rw [if_neg h1] at h; cases h
  rw [if_pos h1] at h ⊢
  by_cases h2 : 1844674407370955162 ≤ acc
  · rw [if_pos h2] at h; cases h
  rw [if_neg h2] at h ⊢
  by_cases h3 : 18446744073709551616 ≤ acc * 10 + (c.toNat - 48)
  · rw [if_pos h3] at h; cases h
  rw [if_neg h3] at h ⊢
  exact parse_append l r _ a h
theorem digit_nat (d : Nat) (h : d < 10) : (UInt8.ofNat (48 + d)).toNat = 48 + d := by
  simp only [UInt8.toNat_ofNat']; omega
theorem parse_dec (u : Nat) : u < 18446744073709551616 → Lib.parseUint10 0 (Lib.decDigits u) = .ok u := by
 induction u using Nat.strongRecOn with
 | _ u ih =>
  intro hu
  rw [Lib.decDigits]
  by_cases h : u < 10
  ·
   rw [dif_pos h]
   have e := digit_nat u h
   simp only [Lib.parseUint10, e]
   rw [if_pos (by omega), if_neg (by omega), if_neg (by omega)]
   congr 1; omega
  rw [dif_neg h, parse_append _ _ 0 (u / 10) (ih (u / 10) (by omega) (by omega))]
  have e := digit_nat (u % 10) (by omega)
  simp only [Lib.parseUint10, e]
  rw [if_pos (by omega), if_neg (by omega), if_neg (by omega)]
  congr 1; omega
theorem dec_ne (u : Nat) : Lib.decDigits u ≠ [] := by
 rw [Lib.decDigits]
 by_cases h : u < 10
 · rw [dif_pos h]; simp
 rw [dif_neg h]; simp
theorem dec_digit (u : Nat) : ∀ c ∈ Lib.decDigits u, 48 ≤ c.toNat ∧ c.toNat ≤ 57 := by
 induction u using Nat.strongRecOn with
 | _ u ih =>
  rw [Lib.decDigits]
  by_cases h : u < 10
  ·
   rw [dif_pos h]
   intro c hc
   rw [List.mem_singleton] at hc
   subst hc
   rw [digit_nat u h]; omega
  rw [dif_neg h]
  intro c hc
  rcases List.mem_append.1 hc with hc | hc
  · exact ih (u / 10) (by omega) c hc
  ·
   rw [List.mem_singleton] at hc
   subst hc
   rw [digit_nat (u % 10) (by omega)]; omega
theorem itoa_back (n : Int) (h0 : -9223372036854775808 ≤ n) (h1 : n ≤ 9223372036854775807) : Lib.atoiAll (Lib.itoa n) = .ok n := by
 unfold Lib.itoa
 by_cases h : n < 0
 ·
  rw [if_pos h, Lib.atoiAll_minus]
  unfold Lib.parseMag
  rw [if_neg (dec_ne _), parse_dec _ (by omega)]
  unfold Lib.signed
  simp only
  rw [if_neg (by omega)]
  congr 1; omega
 rw [if_neg h]
 have hd := dec_digit n.toNat
 have hp := parse_dec n.toNat (by omega)
 have hn := dec_ne n.toNat
 generalize Lib.decDigits n.toNat = l at hd hp hn
 cases l with
 | nil => exact absurd rfl hn
 | cons c r =>
  have hc := hd c (by simp)
  rw [Lib.atoiAll_plain c r (by omega) (by omega)]
  unfold Lib.parseMag
  rw [if_neg (by simp), hp]
  unfold Lib.signless
  simp only
  rw [if_neg (by omega)]
  congr 1; omega
end Go.Proofs.YtnjcpoojgmpmeaaGreatDoor.Nums
namespace Go.Proofs.YtnjcpoojgmpmeaaGreatDoor.PX
open RowKit YtnjcpoojgmpmeaaGreatDoorW.PrintWords YtnjcpoojgmpmeaaGreatDoorW.PrintLast YtnjcpoojgmpmeaaGreatDoorW.PrintMore YtnjcpoojgmpmeaaGreatDoor
attribute [local go_sem] max2_int min2_int max_two min_two max_three min_three max_four min_four   -- for this text's walks alone
set_option linter.unusedVariables false
set_option linter.unusedSimpArgs false
mutual
def grommetref06_Text.l0 : Nat → Int → ByteArray → Bool → Option (ByteArray)
  | 0, _, _, _ => none
  | k + 1, x0, x4, x5 => if x5 = true then ((some (([(wrap64 (48 + (Int.tmod x0 10))) % 256] : List Int) : List Int)).bind fun y108 => (if (strOfNums y108).size + x4.size ≤ 9223372036854775807 then (grommetref06_Text.l0 k (wrap64 (Int.tdiv x0 10)) ((strOfNums y108) ++ x4) false) else (none))) else (if x0 > 0 then ((some (([(wrap64 (48 + (Int.tmod x0 10))) % 256] : List Int) : List Int)).bind fun y111 => (if (strOfNums y111).size + x4.size ≤ 9223372036854775807 then (grommetref06_Text.l0 k (wrap64 (Int.tdiv x0 10)) ((strOfNums y111) ++ x4) false) else (none))) else (some x4))
def grommetref06_Text.f : Nat → Int → Option (ByteArray)
  | 0, _ => none
  | k + 1, a0 => if a0 < 0 then (if a0 ≤ (-10) then ((grommetref06_Text.f k (wrap64 (-(wrap64 (Int.tdiv a0 10))))).bind fun t101 => (if 1 + t101.size ≤ 9223372036854775807 then ((some (([(wrap64 (48 - (Int.tmod a0 10))) % 256] : List Int) : List Int)).bind fun y102 => (if ((⟨#[45]⟩ : ByteArray) ++ t101).size + (strOfNums y102).size ≤ 9223372036854775807 then (some (((⟨#[45]⟩ : ByteArray) ++ t101) ++ (strOfNums y102))) else (none))) else (none))) else (if 1 + 0 ≤ 9223372036854775807 then ((some (([(wrap64 (48 - (Int.tmod a0 10))) % 256] : List Int) : List Int)).bind fun y105 => (if 1 + (strOfNums y105).size ≤ 9223372036854775807 then (some (((⟨#[45]⟩ : ByteArray) ++ (⟨#[]⟩ : ByteArray)) ++ (strOfNums y105))) else (none))) else (none))) else (grommetref06_Text.l0 k a0 (⟨#[]⟩ : ByteArray) true)
end
theorem qza0_ {P : Prop} (h_ : P := by repeat (first | (with_reducible first | exact HB.out | apply below_alloc | apply pw_below_drewN | apply below_drew1) | exact HB.out)) : P := h_
theorem qza1_ {P : Prop} (h_ : P := by first | rfl | (simp; done) | (simp [*]; done)) : P := h_
theorem qza2_ {P : Prop} (h_ : P := by first | rfl | (simp [errW_none, errW_some] <;> rfl) | (simp [*, errW_none, errW_some] <;> rfl)) : P := h_
set_option maxHeartbeats 8000000 in
set_option maxRecDepth 100000 in
theorem grommetref06_Text.calls (k : Nat) : ∀ (a0 : Int) (r : ByteArray) (w : World) (hG : Glob.G w) (h : grommetref06_Text.f k a0 = some r),
  Calls Tryz.prog 67 #[.int .i64 a0] w fun e w' => e = .returned (.string r) ∧ Below w.heap.size w w' := by
 induction k using Nat.strongRecOn with
 | _ k ih =>
 intro a0 r w hG h
 cases k with
 | zero => exact absurd h (by simp [grommetref06_Text.f])
 | succ k =>
 simp only [grommetref06_Text.f] at h
 have HB := Aside0.mk (Below.refl w.heap.size w)
 have H : (if a0 < 0 then (if a0 ≤ (-10) then ((grommetref06_Text.f k (wrap64 (-(wrap64 (Int.tdiv a0 10))))).bind fun t101 => (if 1 + t101.size ≤ 9223372036854775807 then ((some (([(wrap64 (48 - (Int.tmod a0 10))) % 256] : List Int) : List Int)).bind fun y102 => (if ((⟨#[45]⟩ : ByteArray) ++ t101).size + (strOfNums y102).size ≤ 9223372036854775807 then (some (((⟨#[45]⟩ : ByteArray) ++ t101) ++ (strOfNums y102))) else (none))) else (none))) else (if 1 + 0 ≤ 9223372036854775807 then ((some (([(wrap64 (48 - (Int.tmod a0 10))) % 256] : List Int) : List Int)).bind fun y105 => (if 1 + (strOfNums y105).size ≤ 9223372036854775807 then (some (((⟨#[45]⟩ : ByteArray) ++ (⟨#[]⟩ : ByteArray)) ++ (strOfNums y105))) else (none))) else (none))) else (grommetref06_Text.l0 k a0 (⟨#[]⟩ : ByteArray) true)) = some r := h
 clear h
 by_cases c2 : a0 < 0
 ·
  rw [if_pos c2] at H
  have c2b0 : decide (a0 < 0) = true := decide_eq_true c2
  clear c2
  by_cases c3 : a0 ≤ (-10)
  rotate_left
  ·
   rw [if_neg c3] at H
   have c3b0 : decide (a0 ≤ (-10)) = false := decide_eq_false c3
   clear c3
   by_cases c11 : 1 + 0 ≤ 9223372036854775807
   rotate_left
   ·
    rw [if_neg c11] at H
    exact absurd H (by simp)
   rw [if_pos c11] at H
   have c11b0 := eq_true c11
   have c11b1 : decide (1 + 0 ≤ 9223372036854775807) = true := decide_eq_true c11
   try have c11b2 : (9223372036854775807 < 1 + 0) = False := eq_false (Nat.not_lt.2 c11)
   obtain ⟨y105, hy105⟩ : ∃ y_ : List Int, y_ = (([(wrap64 (48 - (Int.tmod a0 10))) % 256] : List Int)) := ⟨_, rfl⟩
   replace H : (if 1 + (strOfNums y105).size ≤ 9223372036854775807 then (some (((⟨#[45]⟩ : ByteArray) ++ (⟨#[]⟩ : ByteArray)) ++ (strOfNums y105))) else (none)) = some r := by first | (rw [hy105]; with_reducible exact H) | (have H2_ := (Option.bind_some _ _).symm.trans H; rw [hy105]; with_reducible exact H2_) | (have H2_ := (Option.bind_some _ _).symm.trans H; with_reducible exact H2_) | with_reducible exact H | (rw [hy105]; exact H) | exact H
   have Ny105 := Aside0.mk hy105
   clear hy105
   by_cases c12 : 1 + (strOfNums y105).size ≤ 9223372036854775807
   rotate_left
   ·
    rw [if_neg c12] at H
    exact absurd H (by simp)
   rw [if_pos c12] at H
   have c12b0 := eq_true c12
   have c12b1 : decide (1 + (strOfNums y105).size ≤ 9223372036854775807) = true := decide_eq_true c12
   try have c12b2 : (9223372036854775807 < 1 + (strOfNums y105).size) = False := eq_false (Nat.not_lt.2 c12)
   obtain rfl := Option.some.inj H
   go_enter Tryz.func67, Tryz.ntmps67
   go_wp2_with (first | ((with_reducible refine gate_dst (N := 20) rfl ?_); refine Kd.R_lit (Kd.int .u8) _ 5 ?hg (N := 20) ?hd (xs := ([(wrap64 (48 - (Int.tmod a0 10))) % 256] : List Int)) (inner := [.int .u8 ((wrap64 (48 - (Int.tmod a0 10))) % 256)]) (ok := fun _ => True) (okp := fun _ => True) ?hr ?hp (fun _ hk => hk) trivial (Below.refl _ _) (Nat.le_refl _) (by simp) ?_; (case hd => rfl); (case hg => rfl); (case hr => first | (go_simp; done) | (go_simp; rfl)); (case hp => exact (Reps.one (show Kd.M (Kd.int .u8) _ _ _ ((wrap64 (48 - (Int.tmod a0 10))) % 256) [.int .u8 ((wrap64 (48 - (Int.tmod a0 10))) % 256)] from rfl) (Reps.none _ _))); intro v106 w13 ho14 hb hg_ hnew_; clear hg_ hnew_; (first | rw [← Ny105.out] at ho14 | (simp only [Int.reduceToNat] at ho14; rw [← Ny105.out] at ho14)); have n0_ := Aside0.mk (Kd.R_lower ho14 (below_size (qza0_))); have n1_ := Aside0.mk (below_step (qza0_) hb); clear HB; have HO107 := n0_; have HB := n1_; clear n0_ n1_; clear hb ho14; have hcv15 := own_string (P := Tryz.prog) Tryz.underlying97 Tryz.underlying5 Tryz.underlying9 (Kd.own_of_R HO107.out)))
   go_ret
   exact ⟨qza2_, qza0_⟩
  rw [if_pos c3] at H
  have c3b0 : decide (a0 ≤ (-10)) = true := decide_eq_true c3
  clear c3
  replace H := Option.bind_eq_some_iff.mp H
  obtain ⟨t101, A40, H⟩ := H
  replace H : (if 1 + t101.size ≤ 9223372036854775807 then ((some (([(wrap64 (48 - (Int.tmod a0 10))) % 256] : List Int) : List Int)).bind fun y102 => (if ((⟨#[45]⟩ : ByteArray) ++ t101).size + (strOfNums y102).size ≤ 9223372036854775807 then (some (((⟨#[45]⟩ : ByteArray) ++ t101) ++ (strOfNums y102))) else (none))) else (none)) = some r := H
  have A4 := Aside0.mk A40
  clear A40
  by_cases c5 : 1 + t101.size ≤ 9223372036854775807
  rotate_left
  ·
   rw [if_neg c5] at H
   exact absurd H (by simp)
  rw [if_pos c5] at H
  have c5b0 := eq_true c5
  have c5b1 : decide (1 + t101.size ≤ 9223372036854775807) = true := decide_eq_true c5
  try have c5b2 : (9223372036854775807 < 1 + t101.size) = False := eq_false (Nat.not_lt.2 c5)
  obtain ⟨y102, hy102⟩ : ∃ y_ : List Int, y_ = (([(wrap64 (48 - (Int.tmod a0 10))) % 256] : List Int)) := ⟨_, rfl⟩
  replace H : (if ((⟨#[45]⟩ : ByteArray) ++ t101).size + (strOfNums y102).size ≤ 9223372036854775807 then (some (((⟨#[45]⟩ : ByteArray) ++ t101) ++ (strOfNums y102))) else (none)) = some r := by first | (rw [hy102]; with_reducible exact H) | (have H2_ := (Option.bind_some _ _).symm.trans H; rw [hy102]; with_reducible exact H2_) | (have H2_ := (Option.bind_some _ _).symm.trans H; with_reducible exact H2_) | with_reducible exact H | (rw [hy102]; exact H) | exact H
  have Ny102 := Aside0.mk hy102
  clear hy102
  by_cases c6 : ((⟨#[45]⟩ : ByteArray) ++ t101).size + (strOfNums y102).size ≤ 9223372036854775807
  rotate_left
  ·
   rw [if_neg c6] at H
   exact absurd H (by simp)
  rw [if_pos c6] at H
  have c6b0 := eq_true c6
  have c6b1 : decide (((⟨#[45]⟩ : ByteArray) ++ t101).size + (strOfNums y102).size ≤ 9223372036854775807) = true := decide_eq_true c6
  try have c6b2 : (9223372036854775807 < ((⟨#[45]⟩ : ByteArray) ++ t101).size + (strOfNums y102).size) = False := eq_false (Nat.not_lt.2 c6)
  obtain rfl := Option.some.inj H
  go_enter Tryz.func67, Tryz.ntmps67
  go_wp2_with (first | ((with_reducible refine gate_callee (f := 67) rfl ?_); refine goesL_ (some 13) rfl rfl Tryz.func67 (by kernel_rfl) rfl #[.int .i64 (wrap64 (-(wrap64 (Int.tdiv a0 10))))] rfl (by (try simp only [List.map_toArray, List.map_cons, List.map_nil]); first | done | rfl | (simp only [List.length_drop, List.length_take]; rfl)) ?_; (with_reducible refine (ih k (by omega) (wrap64 (-(wrap64 (Int.tdiv a0 10)))) t101 _ (hG.below (by first | ((repeat (first | (with_reducible first | exact HB.out | apply below_alloc | apply pw_below_drewN | apply below_drew1 | (refine Glob.below_set ?_ (by assumption) _ _ _)) | exact HB.out)); done) | (refine Drawn0.below ?_; repeat (first | exact Drawn0.refl _ | assumption | apply Drawn0.step)))) A4.out).mono ?_); rintro e w7 ⟨rfl, hb⟩; refine ⟨_, rfl, ?_⟩; have n0_ := Aside0.mk (below_step (qza0_) hb); clear HB; have HB := n0_; clear n0_; (try clear hb); (try clear hk)) | ((with_reducible refine gate_dst (N := 20) rfl ?_); refine Kd.R_lit (Kd.int .u8) _ 5 ?hg (N := 20) ?hd (xs := ([(wrap64 (48 - (Int.tmod a0 10))) % 256] : List Int)) (inner := [.int .u8 ((wrap64 (48 - (Int.tmod a0 10))) % 256)]) (ok := fun _ => True) (okp := fun _ => True) ?hr ?hp (fun _ hk => hk) trivial (Below.refl _ _) (Nat.le_refl _) (by simp) ?_; (case hd => rfl); (case hg => rfl); (case hr => first | (go_simp; done) | (go_simp; rfl)); (case hp => exact (Reps.one (show Kd.M (Kd.int .u8) _ _ _ ((wrap64 (48 - (Int.tmod a0 10))) % 256) [.int .u8 ((wrap64 (48 - (Int.tmod a0 10))) % 256)] from rfl) (Reps.none _ _))); intro v103 w8 ho9 hb hg_ hnew_; clear hg_ hnew_; (first | rw [← Ny102.out] at ho9 | (simp only [Int.reduceToNat] at ho9; rw [← Ny102.out] at ho9)); have n0_ := Aside0.mk (Kd.R_lower ho9 (below_size (qza0_))); have n1_ := Aside0.mk (below_step (qza0_) hb); clear HB; have HO104 := n0_; have HB := n1_; clear n0_ n1_; clear hb ho9; have hcv10 := own_string (P := Tryz.prog) Tryz.underlying97 Tryz.underlying5 Tryz.underlying9 (Kd.own_of_R HO104.out)))
  go_ret
  exact ⟨qza2_, qza0_⟩
 rw [if_neg c2] at H
 have c2b0 : decide (a0 < 0) = false := decide_eq_false c2
 clear c2
 have H' := Aside0.mk H
 clear H
 go_enter Tryz.func67, Tryz.ntmps67
 go_wp2
 go_loopg [0, 4, 5] k (fun kq v0 v4 v5 w' => ∃ (x0_1 : Int) (x4_1 : ByteArray) (x5_1 : Bool), v0 = .int .i64 x0_1 ∧ v4 = .string x4_1 ∧ v5 = .bool x5_1 ∧ Aside0 (grommetref06_Text.l0 kq x0_1 x4_1 x5_1 = some r) ∧ Aside0 (kq ≤ k) ∧ Aside0 (Below w.heap.size w w'))
 case atStart => exact ⟨(a0), ((⟨#[]⟩ : ByteArray)), (true), (qza1_), (qza1_), (qza1_), H', ⟨Nat.le_refl _⟩, ⟨qza0_⟩⟩
 case round =>
  clear H'
  try clear c1
  try clear hcv1
  try clear c2
  try clear c2b0
  try clear p2
  try clear c3
  try clear c3b0
  try clear c5
  try clear c5b0
  try clear c5b1
  try clear c5b2
  try clear c6
  try clear c6b0
  try clear c6b1
  try clear c6b2
  try clear p6
  try clear hcv10
  try clear c11
  try clear c11b0
  try clear c11b1
  try clear c11b2
  try clear c12
  try clear c12b0
  try clear c12b1
  try clear c12b2
  try clear hcv15
  obtain ⟨x0_1, x4_1, x5_1, rfl, rfl, rfl, HA, HK1, HB⟩ := hrel
  cases gk with
  | zero => exact absurd HA.out (by simp [grommetref06_Text.l0])
  | succ k1 =>
   have H := HA.out
   clear HA
   simp only [grommetref06_Text.l0] at H
   by_cases c16 : x5_1 = true
   ·
    subst c16
    have H1 : ((some (([(wrap64 (48 + (Int.tmod x0_1 10))) % 256] : List Int) : List Int)).bind fun y108 => (if (strOfNums y108).size + x4_1.size ≤ 9223372036854775807 then (grommetref06_Text.l0 k1 (wrap64 (Int.tdiv x0_1 10)) ((strOfNums y108) ++ x4_1) false) else (none))) = some r := by rw [if_pos rfl] at H; exact H
    clear H
    have H := H1
    clear H1
    obtain ⟨y108, hy108⟩ : ∃ y_ : List Int, y_ = (([(wrap64 (48 + (Int.tmod x0_1 10))) % 256] : List Int)) := ⟨_, rfl⟩
    replace H : (if (strOfNums y108).size + x4_1.size ≤ 9223372036854775807 then (grommetref06_Text.l0 k1 (wrap64 (Int.tdiv x0_1 10)) ((strOfNums y108) ++ x4_1) false) else (none)) = some r := by first | (rw [hy108]; with_reducible exact H) | (have H2_ := (Option.bind_some _ _).symm.trans H; rw [hy108]; with_reducible exact H2_) | (have H2_ := (Option.bind_some _ _).symm.trans H; with_reducible exact H2_) | with_reducible exact H | (rw [hy108]; exact H) | exact H
    have Ny108 := Aside0.mk hy108
    clear hy108
    by_cases c17 : (strOfNums y108).size + x4_1.size ≤ 9223372036854775807
    rotate_left
    ·
     rw [if_neg c17] at H
     exact absurd H (by simp)
    rw [if_pos c17] at H
    have c17b0 := eq_true c17
    have c17b1 : decide ((strOfNums y108).size + x4_1.size ≤ 9223372036854775807) = true := decide_eq_true c17
    try have c17b2 : (9223372036854775807 < (strOfNums y108).size + x4_1.size) = False := eq_false (Nat.not_lt.2 c17)
    have H' := Aside0.mk H
    clear H
    go_wp2_with (first | ((with_reducible refine gate_dst (N := 32) rfl ?_); refine Kd.R_lit (Kd.int .u8) _ 5 ?hg (N := 32) ?hd (xs := ([(wrap64 (48 + (Int.tmod x0_1 10))) % 256] : List Int)) (inner := [.int .u8 ((wrap64 (48 + (Int.tmod x0_1 10))) % 256)]) (ok := fun _ => True) (okp := fun _ => True) ?hr ?hp (fun _ hk => hk) trivial (Below.refl _ _) (Nat.le_refl _) (by simp) ?_; (case hd => rfl); (case hg => rfl); (case hr => first | (go_simp; done) | (go_simp; rfl)); (case hp => exact (Reps.one (show Kd.M (Kd.int .u8) _ _ _ ((wrap64 (48 + (Int.tmod x0_1 10))) % 256) [.int .u8 ((wrap64 (48 + (Int.tmod x0_1 10))) % 256)] from rfl) (Reps.none _ _))); intro v109 w18 ho19 hb hg_ hnew_; clear hg_ hnew_; (first | rw [← Ny108.out] at ho19 | (simp only [Int.reduceToNat] at ho19; rw [← Ny108.out] at ho19)); have n0_ := Aside0.mk (Kd.R_lower ho19 (below_size (qza0_))); have n1_ := Aside0.mk (below_step (qza0_) hb); clear HB; have HO110 := n0_; have HB := n1_; clear n0_ n1_; clear hb ho19; have hcv20 := own_string (P := Tryz.prog) Tryz.underlying97 Tryz.underlying5 Tryz.underlying9 (Kd.own_of_R HO110.out)))
    go_roundg k1
    case measure => have := HK1.out; omega
    case rel => exact ⟨(wrap64 (Int.tdiv x0_1 10)), ((strOfNums y108) ++ x4_1), (false), (qza1_), (qza1_), (qza1_), H', ⟨by have := HK1.out; omega⟩, ⟨qza0_⟩⟩
   replace c16 := Bool.eq_false_iff.mpr c16
   subst c16
   have H1 : (if x0_1 > 0 then ((some (([(wrap64 (48 + (Int.tmod x0_1 10))) % 256] : List Int) : List Int)).bind fun y111 => (if (strOfNums y111).size + x4_1.size ≤ 9223372036854775807 then (grommetref06_Text.l0 k1 (wrap64 (Int.tdiv x0_1 10)) ((strOfNums y111) ++ x4_1) false) else (none))) else (some x4_1)) = some r := by rw [if_neg (show ¬ (false = true) by decide)] at H; exact H
   clear H
   have H := H1
   clear H1
   by_cases c21 : x0_1 > 0
   rotate_left
   ·
    rw [if_neg c21] at H
    have c21b0 : decide (0 < x0_1) = false := decide_eq_false c21
    clear c21
    obtain rfl := Option.some.inj H
    go_wp2
    go_ret
    exact ⟨qza2_, qza0_⟩
   rw [if_pos c21] at H
   have c21b0 : decide (0 < x0_1) = true := decide_eq_true c21
   clear c21
   obtain ⟨y111, hy111⟩ : ∃ y_ : List Int, y_ = (([(wrap64 (48 + (Int.tmod x0_1 10))) % 256] : List Int)) := ⟨_, rfl⟩
   replace H : (if (strOfNums y111).size + x4_1.size ≤ 9223372036854775807 then (grommetref06_Text.l0 k1 (wrap64 (Int.tdiv x0_1 10)) ((strOfNums y111) ++ x4_1) false) else (none)) = some r := by first | (rw [hy111]; with_reducible exact H) | (have H2_ := (Option.bind_some _ _).symm.trans H; rw [hy111]; with_reducible exact H2_) | (have H2_ := (Option.bind_some _ _).symm.trans H; with_reducible exact H2_) | with_reducible exact H | (rw [hy111]; exact H) | exact H
   have Ny111 := Aside0.mk hy111
   clear hy111
   by_cases c22 : (strOfNums y111).size + x4_1.size ≤ 9223372036854775807
   rotate_left
   ·
    rw [if_neg c22] at H
    exact absurd H (by simp)
   rw [if_pos c22] at H
   have c22b0 := eq_true c22
   have c22b1 : decide ((strOfNums y111).size + x4_1.size ≤ 9223372036854775807) = true := decide_eq_true c22
   try have c22b2 : (9223372036854775807 < (strOfNums y111).size + x4_1.size) = False := eq_false (Nat.not_lt.2 c22)
   have H' := Aside0.mk H
   clear H
   go_wp2_with (first | ((with_reducible refine gate_dst (N := 32) rfl ?_); refine Kd.R_lit (Kd.int .u8) _ 5 ?hg (N := 32) ?hd (xs := ([(wrap64 (48 + (Int.tmod x0_1 10))) % 256] : List Int)) (inner := [.int .u8 ((wrap64 (48 + (Int.tmod x0_1 10))) % 256)]) (ok := fun _ => True) (okp := fun _ => True) ?hr ?hp (fun _ hk => hk) trivial (Below.refl _ _) (Nat.le_refl _) (by simp) ?_; (case hd => rfl); (case hg => rfl); (case hr => first | (go_simp; done) | (go_simp; rfl)); (case hp => exact (Reps.one (show Kd.M (Kd.int .u8) _ _ _ ((wrap64 (48 + (Int.tmod x0_1 10))) % 256) [.int .u8 ((wrap64 (48 + (Int.tmod x0_1 10))) % 256)] from rfl) (Reps.none _ _))); intro v112 w23 ho24 hb hg_ hnew_; clear hg_ hnew_; (first | rw [← Ny111.out] at ho24 | (simp only [Int.reduceToNat] at ho24; rw [← Ny111.out] at ho24)); have n0_ := Aside0.mk (Kd.R_lower ho24 (below_size (qza0_))); have n1_ := Aside0.mk (below_step (qza0_) hb); clear HB; have HO113 := n0_; have HB := n1_; clear n0_ n1_; clear hb ho24; have hcv25 := own_string (P := Tryz.prog) Tryz.underlying97 Tryz.underlying5 Tryz.underlying9 (Kd.own_of_R HO113.out)))
   go_roundg k1
   case measure => have := HK1.out; omega
   case rel => exact ⟨(wrap64 (Int.tdiv x0_1 10)), ((strOfNums y111) ++ x4_1), (false), (qza1_), (qza1_), (qza1_), H', ⟨by have := HK1.out; omega⟩, ⟨qza0_⟩⟩
end Go.Proofs.YtnjcpoojgmpmeaaGreatDoor.PX
namespace Go.Proofs.YtnjcpoojgmpmeaaGreatDoor.Nums
open RowKit YtnjcpoojgmpmeaaGreatDoor.PX YtnjcpoojgmpmeaaGreatDoor.Utf YtnjcpoojgmpmeaaGreatDoorW.PrintWords YtnjcpoojgmpmeaaGreatDoorW.PrintLast
theorem nums_one (n : Int) : (strOfNums [n]).data.toList = [UInt8.ofNat n.toNat] := rfl
theorem nums_size (n : Int) : (strOfNums [n]).size = 1 := rfl
theorem text_l0 (k : Nat) (n : Int) (acc : ByteArray) (b : Bool) : grommetref06_Text.l0 (k + 1) n acc b = if b = true then ((some (([(wrap64 (48 + (Int.tmod n 10))) % 256] : List Int) : List Int)).bind fun y180 => (if (strOfNums y180).size + acc.size ≤ 9223372036854775807 then (grommetref06_Text.l0 k (wrap64 (Int.tdiv n 10)) ((strOfNums y180) ++ acc) false) else (none))) else (if n > 0 then ((some (([(wrap64 (48 + (Int.tmod n 10))) % 256] : List Int) : List Int)).bind fun y183 => (if (strOfNums y183).size + acc.size ≤ 9223372036854775807 then (grommetref06_Text.l0 k (wrap64 (Int.tdiv n 10)) ((strOfNums y183) ++ acc) false) else (none))) else (some acc)) := by
  rw [grommetref06_Text.l0]
theorem text_step (k : Nat) (u : Nat) (hu : u < 9223372036854775808) (acc : ByteArray) (ha : acc.size ≤ 100) (b : Bool) (h : b = true ∨ 0 < u) :
  grommetref06_Text.l0 (k + 1) (u : Int) acc b = grommetref06_Text.l0 k ((u / 10 : Nat) : Int) (strOfNums [((48 + u % 10 : Nat) : Int)] ++ acc) false := by
 have e1 : (wrap64 (48 + (Int.tmod (u : Int) 10))) % 256 = ((48 + u % 10 : Nat) : Int) := by
  rw [Int.tmod_eq_emod_of_nonneg (by omega)]; unfold wrap64; omega
 have e2 : wrap64 (Int.tdiv (u : Int) 10) = ((u / 10 : Nat) : Int) := by
  rw [Int.tdiv_eq_ediv_of_nonneg (by omega)]; unfold wrap64; omega
 rw [text_l0, e1, e2]
 by_cases hb : b = true
 · rw [if_pos hb, Option.bind_some, if_pos (by rw [nums_size]; omega)]
 have hp := h.resolve_left hb
 rw [if_neg hb, if_pos (by omega), Option.bind_some, if_pos (by rw [nums_size]; omega)]
theorem text_stop (k : Nat) (acc : ByteArray) : grommetref06_Text.l0 (k + 1) ((0 : Nat) : Int) acc false = some acc := by
  rw [text_l0, if_neg (by decide), if_neg (by decide)]
theorem join_list (a b : ByteArray) : (a ++ b).data.toList = a.data.toList ++ b.data.toList := by simp
theorem bytes_ext {a b : ByteArray} (h : a.data.toList = b.data.toList) : a = b := by
 cases a with
 | mk a => cases b with
  | mk b => exact congrArg _ (Array.ext' h)
theorem text_more (d : Nat) : ∀ (u : Nat) (k : Nat) (acc : ByteArray), u < 10 ^ d → d ≤ 19 → u < 9223372036854775808 → acc.size ≤ 100 - d → d < k → 0 < u →
  ∃ r, grommetref06_Text.l0 k (u : Int) acc false = some r ∧ r.data.toList = Lib.decDigits u ++ acc.data.toList := by
 induction d with
 | zero => intro u k acc hu _ _ _ _ h0; simp at hu; omega
 | succ d ih =>
  intro u k acc hu hd hb ha hk h0
  obtain ⟨k, rfl⟩ : ∃ m, k = m + 1 := ⟨k - 1, by omega⟩
  rw [text_step k u hb acc (by omega) false (.inr h0), Lib.decDigits]
  by_cases q : u < 10
  ·
   obtain ⟨k, rfl⟩ : ∃ m, k = m + 1 := ⟨k - 1, by omega⟩
   rw [dif_pos q, show u / 10 = 0 by omega, text_stop]
   exact ⟨_, rfl, by rw [join_list, nums_one, Nat.mod_eq_of_lt q]; rfl⟩
  rw [dif_neg q]
  have h10 : u / 10 < 10 ^ d := by rw [Nat.pow_succ] at hu; omega
  obtain ⟨r, e, hr⟩ := ih (u / 10) k (strOfNums [((48 + u % 10 : Nat) : Int)] ++ acc) h10 (by omega) (by omega) (by rw [ByteArray.size_append, nums_size]; omega) (by omega) (by omega)
  exact ⟨r, e, by rw [hr, join_list, nums_one, List.append_assoc]; rfl⟩
theorem text_up (u : Nat) (hu : u < 9223372036854775808) (K : Nat) : grommetref06_Text.l0 (K + 30) (u : Int) (⟨#[]⟩ : ByteArray) true = some ⟨(Lib.decDigits u).toArray⟩ := by
 rw [show K + 30 = K + 29 + 1 from rfl, text_step (K + 29) u hu _ (by decide) true (.inl rfl)]
 rw [Lib.decDigits]
 by_cases q : u < 10
 ·
  rw [dif_pos q, show u / 10 = 0 by omega, text_stop]
  exact congrArg some (bytes_ext (by rw [join_list, nums_one, Nat.mod_eq_of_lt q]; rfl))
 rw [dif_neg q]
 obtain ⟨r, e, hr⟩ := text_more 19 (u / 10) (K + 29) (strOfNums [((48 + u % 10 : Nat) : Int)] ++ (⟨#[]⟩ : ByteArray)) (by omega) (by decide) (by omega) (by rw [ByteArray.size_append, nums_size]; decide) (by omega) (by omega)
 rw [e]
 exact congrArg some (bytes_ext (by rw [hr, join_list, nums_one]; rfl))
theorem text_f (k : Nat) (n : Int) : grommetref06_Text.f (k + 1) n = if n < 0 then (if n ≤ (-10) then ((grommetref06_Text.f k (wrap64 (-(wrap64 (Int.tdiv n 10))))).bind fun t173 => (if 1 + t173.size ≤ 9223372036854775807 then ((some (([(wrap64 (48 - (Int.tmod n 10))) % 256] : List Int) : List Int)).bind fun y174 => (if ((⟨#[45]⟩ : ByteArray) ++ t173).size + (strOfNums y174).size ≤ 9223372036854775807 then (some (((⟨#[45]⟩ : ByteArray) ++ t173) ++ (strOfNums y174))) else (none))) else (none))) else (if 1 + 0 ≤ 9223372036854775807 then ((some (([(wrap64 (48 - (Int.tmod n 10))) % 256] : List Int) : List Int)).bind fun y177 => (if 1 + (strOfNums y177).size ≤ 9223372036854775807 then (some (((⟨#[45]⟩ : ByteArray) ++ (⟨#[]⟩ : ByteArray)) ++ (strOfNums y177))) else (none))) else (none))) else (grommetref06_Text.l0 k n (⟨#[]⟩ : ByteArray) true) := by
  rw [grommetref06_Text.f]
theorem dec_length_le (u : Nat) (h : u < 9223372036854775808) : (Lib.decDigits u).length ≤ 21 := by
  rw [← Lib.itoa_nonneg]; exact Lib.itoa_length_le _ (by omega) (by omega)
theorem text_at (n : Int) (h0 : -9223372036854775808 ≤ n) (h1 : n ≤ 9223372036854775807) (K : Nat) : grommetref06_Text.f (K + 32) n = some ⟨(Lib.itoa n).toArray⟩ := by
  rw [show K + 32 = K + 31 + 1 from rfl, text_f]
  unfold Lib.itoa
  by_cases hn : n < 0
  · rw [if_pos hn, if_pos hn]
    obtain ⟨u, rfl⟩ : ∃ u : Nat, n = -(u : Int) := ⟨n.natAbs, by omega⟩
    have e0 : (-(u : Int)).natAbs = u := by omega
    have em : (wrap64 (48 - (Int.tmod (-(u : Int)) 10))) % 256 = ((48 + u % 10 : Nat) : Int) := by
      rw [Int.neg_tmod, Int.tmod_eq_emod_of_nonneg (by omega)]; unfold wrap64; omega
    have ed : wrap64 (-(wrap64 (Int.tdiv (-(u : Int)) 10))) = ((u / 10 : Nat) : Int) := by
      rw [Int.neg_tdiv, Int.tdiv_eq_ediv_of_nonneg (by omega)]; unfold wrap64; omega
    rw [e0, em, ed, Lib.decDigits]
    by_cases q : u < 10
    · rw [if_neg (by omega), dif_pos q, if_pos (by decide), Option.bind_some, if_pos (by rw [nums_size]; decide)]
      exact congrArg some (bytes_ext (by rw [join_list, join_list, nums_one, Nat.mod_eq_of_lt q]; rfl))
    · have hl := dec_length_le (u / 10) (by omega)
      have hz : (⟨(Lib.decDigits (u / 10)).toArray⟩ : ByteArray).size = (Lib.decDigits (u / 10)).length := by rw [size_list]
      rw [if_pos (by omega), dif_neg q, show K + 31 = K + 30 + 1 from rfl, text_f, if_neg (by omega), text_up (u / 10) (by omega), Option.bind_some, if_pos (by omega), Option.bind_some,
        if_pos (by rw [ByteArray.size_append, nums_size, hz]; have : (⟨#[45]⟩ : ByteArray).size = 1 := rfl; omega)]
      exact congrArg some (bytes_ext (by rw [join_list, join_list, nums_one]; rfl))
  · rw [if_neg hn, if_neg hn]
    obtain ⟨u, rfl⟩ : ∃ u : Nat, n = (u : Int) := ⟨n.toNat, by omega⟩
    rw [show K + 31 = (K + 1) + 30 from rfl, text_up u (by omega), Int.toNat_natCast]
end Go.Proofs.YtnjcpoojgmpmeaaGreatDoor.Nums
namespace Go.Proofs.YtnjcpoojgmpmeaaGreatDoor.PX
open RowKit YtnjcpoojgmpmeaaGreatDoorW.PrintWords YtnjcpoojgmpmeaaGreatDoorW.PrintLast YtnjcpoojgmpmeaaGreatDoorW.PrintMore YtnjcpoojgmpmeaaGreatDoor
attribute [local go_sem] max2_int min2_int max_two min_two max_three min_three max_four min_four   -- for this text's walks alone
set_option linter.unusedVariables false
set_option linter.unusedSimpArgs false
mutual
def grommetref06_Number.j0 : Nat → ByteArray → Bool → Option (Int × Bool)
  | 0, _, _ => none
  | k + 1, x0, x13 => if x13 = true then (some (0, false)) else (grommetref06_Number.l0 k x0 0 0)
def grommetref06_Number.l0 : Nat → ByteArray → Int → Int → Option (Int × Bool)
  | 0, _, _, _ => none
  | k + 1, x0, x4, x5 => if x5 < (x0.size : Int) then (if x5 = 0 then (if 0 < (x0.size : Int) then (grommetref06_Number.j2 k x0 x4 x5 ((bt x0 0) == 45)) else (none)) else (grommetref06_Number.j2 k x0 x4 x5 false)) else (if 0 < (x0.size : Int) then (if (bt x0 0) = 45 then ((grommetref06_Text.f k x4).bind fun t101 => (if t101.toList = x0.toList then (some (x4, true)) else (some (0, false)))) else ((grommetref06_Text.f k (wrap64 (-x4))).bind fun t102 => (if t102.toList = x0.toList then (some (wrap64 (-x4), true)) else (some (0, false))))) else (none))
def grommetref06_Number.j2 : Nat → ByteArray → Int → Int → Bool → Option (Int × Bool)
  | 0, _, _, _, _ => none
  | k + 1, x0, x4, x5, x26 => if x26 = true then (grommetref06_Number.l0 k x0 x4 (wrap64 (x5 + 1))) else (if 0 ≤ x5 then (if x5 < (x0.size : Int) then (if (bt x0 x5) < 48 then (some (0, false)) else (if (bt x0 x5) > 57 then (some (0, false)) else (grommetref06_Number.l0 k x0 (wrap64 ((wrap64 (x4 * 10)) - (((bt x0 x5) - 48) % 256))) (wrap64 (x5 + 1))))) else (none)) else (none))
end
def grommetref06_Number.f (k : Nat) (a0 : ByteArray) : Option (Int × Bool) := if (a0.size : Int) < 1 then (grommetref06_Number.j0 k a0 true) else (grommetref06_Number.j0 k a0 (decide ((a0.size : Int) > 20)))
theorem qbb0_ {P : Prop} (h_ : P := by repeat (first | (with_reducible first | exact HB.out | apply below_alloc | apply pw_below_drewN | apply below_drew1) | exact HB.out)) : P := h_
theorem qbb1_ {P : Prop} (h_ : P := by first | (with_reducible assumption) | assumption) : P := h_
theorem qbb2_ {P : Prop} (h_ : P := by first | ((repeat (first | (with_reducible first | exact HB.out | apply below_alloc | apply pw_below_drewN | apply below_drew1 | (refine Glob.below_set ?_ (by assumption) _ _ _)) | exact HB.out)); done) | (refine Drawn0.below ?_; repeat (first | exact Drawn0.refl _ | assumption | apply Drawn0.step))) : P := h_
theorem qbb3_ {P : Prop} (h_ : P := by first | rfl | (simp [errW_none, errW_some] <;> rfl) | (simp [*, errW_none, errW_some] <;> rfl)) : P := h_
theorem qbb4_ {P : Prop} (h_ : P := by (try simp only [List.map_toArray, List.map_cons, List.map_nil]); first | done | rfl | (simp only [List.length_drop, List.length_take]; rfl)) : P := h_
theorem qbb5_ {P : Prop} (h_ : P := by first | rfl | (simp; done) | (simp [*]; done)) : P := h_
set_option maxHeartbeats 8000000 in
set_option maxRecDepth 100000 in
theorem grommetref06_Number.calls (k : Nat) (a0 : ByteArray) (r1 : Int) (r2 : Bool) (w : World) (hG : Glob.G w) (h : grommetref06_Number.f k a0 = some (r1, r2)) :
  Calls Tryz.prog 130 #[.string a0] w fun e w' => e = .returned (.tuple #[.int .i64 r1, .bool r2]) ∧ Below w.heap.size w w' := by
 have HB := Aside0.mk (Below.refl w.heap.size w)
 have H : (if (a0.size : Int) < 1 then (grommetref06_Number.j0 k a0 true) else (grommetref06_Number.j0 k a0 (decide ((a0.size : Int) > 20)))) = some (r1, r2) := h
 clear h
 have HC2 := Aside0.mk H
 clear H
 go_enter Tryz.func130, Tryz.ntmps130
 go_upto_region 1 with (fail)
 go_cut [13] (fun v13 wc => ∃ (kq : Nat) (x13_1 : Bool), v13 = .bool x13_1 ∧ Aside0 (grommetref06_Number.j0 kq a0 x13_1 = some (r1, r2)) ∧ Aside0 (kq ≤ k) ∧ Aside0 (Below w.heap.size w wc))
 case first =>
  have H := HC2.out
  clear HC2
  by_cases c3 : (a0.size : Int) < 1
  ·
   rw [if_pos c3] at H
   have c3b0 : decide ((a0.size : Int) < 1) = true := decide_eq_true c3
   have c3b1 : decide (a0.size < 1) = true := decide_eq_true (by omega)
   clear c3
   (first | rw [c3b0] | (simp only [i64_w, i32_w]; rw [c3b0]) | skip)
   have H' := Aside0.mk H
   clear H
   go_wp2
   go_meet
   case rel => exact ⟨_, (true), (qbb5_), H', ⟨by first | omega | exact Nat.le_refl _⟩, ⟨qbb0_⟩⟩
  rw [if_neg c3] at H
  have c3b0 : decide ((a0.size : Int) < 1) = false := decide_eq_false c3
  have c3b1 : decide (a0.size < 1) = false := decide_eq_false (by omega)
  clear c3
  (first | rw [c3b0] | (simp only [i64_w, i32_w]; rw [c3b0]) | skip)
  have H' := Aside0.mk H
  clear H
  go_wp2
  go_meet
  case rel => exact ⟨_, (decide ((a0.size : Int) > 20)), (qbb5_), H', ⟨by first | omega | exact Nat.le_refl _⟩, ⟨qbb0_⟩⟩
 case rest =>
  clear HC2
  try clear c1
  try clear p2
  try clear c3
  try clear c3b0
  try clear c3b1
  obtain ⟨kq, x13_1, rfl, HA, HJ1, HB⟩ := hcut
  cases kq with
  | zero => exact absurd HA.out (by simp [grommetref06_Number.j0])
  | succ kj1 =>
   have H := HA.out
   clear HA
   simp only [grommetref06_Number.j0] at H
   by_cases c4 : x13_1 = true
   ·
    subst c4
    have H1 : (some (0, false)) = some (r1, r2) := by rw [if_pos rfl] at H; exact H
    clear H
    have H := H1
    clear H1
    simp only [Option.some.injEq, Prod.mk.injEq] at H
    obtain ⟨rfl, rfl⟩ := H
    go_wp2
    go_ret2
    exact ⟨qbb3_, qbb0_⟩
   replace c4 := Bool.eq_false_iff.mpr c4
   subst c4
   have H1 : (grommetref06_Number.l0 kj1 a0 0 0) = some (r1, r2) := by rw [if_neg (show ¬ (false = true) by decide)] at H; exact H
   clear H
   have H := H1
   clear H1
   have H' := Aside0.mk H
   clear H
   go_wp2
   go_loopg [4, 5] kj1 (fun kq v4 v5 w' => ∃ (x4_2 : Int) (x5_2 : Int), v4 = .int .i64 x4_2 ∧ v5 = .int .i64 x5_2 ∧ Aside0 (grommetref06_Number.l0 kq a0 x4_2 x5_2 = some (r1, r2)) ∧ Aside0 (kq ≤ kj1) ∧ Aside0 (Below w.heap.size w w'))
   case atStart => exact ⟨(0), (0), (qbb5_), (qbb5_), H', ⟨Nat.le_refl _⟩, ⟨qbb0_⟩⟩
   case round =>
    clear H'
    try clear c1
    try clear p2
    try clear c3
    try clear c3b0
    try clear c3b1
    try clear c4
    try clear p2
    obtain ⟨x4_2, x5_2, rfl, rfl, HA, HK2, HB⟩ := hrel
    cases gk with
    | zero => exact absurd HA.out (by simp [grommetref06_Number.l0])
    | succ k2 =>
     have H := HA.out
     clear HA
     simp only [grommetref06_Number.l0] at H
     by_cases c5 : x5_2 < (a0.size : Int)
     rotate_left
     ·
      rw [if_neg c5] at H
      have c5b0 : decide (x5_2 < (a0.size : Int)) = false := decide_eq_false c5
      clear c5
      by_cases c18 : 0 < (a0.size : Int)
      rotate_left
      ·
       rw [if_neg c18] at H
       exact absurd H (by simp)
      rw [if_pos c18] at H
      have c18b0 : decide (0 < (a0.size : Int)) = true := decide_eq_true c18
      have c18b1 : decide (0 < a0.size) = true := decide_eq_true (by omega)
      clear c18
      by_cases c20 : (bt a0 0) = 45
      ·
       rw [if_pos c20] at H
       have c20b0 : ((bt a0 0) == 45) = true := beq_iff_eq.mpr c20
       have c20b1 : ((bt a0 0) != 45) = false := bne_eq_false_iff_eq.mpr c20
       clear c20
       replace H := Option.bind_eq_some_iff.mp H
       obtain ⟨t101, A210, H⟩ := H
       replace H : (if t101.toList = a0.toList then (some (x4_2, true)) else (some (0, false))) = some (r1, r2) := H
       have A21 := Aside0.mk A210
       clear A210
       by_cases c22 : t101.toList = a0.toList
       rotate_left
       ·
        rw [if_neg c22] at H
        have c22b0 : (t101.toList == a0.toList) = false := beq_eq_false_iff_ne.mpr c22
        have c22b1 : (t101.toList != a0.toList) = true := bne_iff_ne.mpr c22
        simp only [Option.some.injEq, Prod.mk.injEq] at H
        obtain ⟨rfl, rfl⟩ := H
        have p19 : 0 ≤ (0 : Int) := (by omega)
        have q19 : 0 < a0.size := (by have : (0 : Int) < (a0.size : Int) := of_decide_eq_true (qbb1_); omega)
        have hx19 : ∀ h : 0 < a0.size, ((a0[0]'h).toNat : Int) = bt a0 0 := bt_at a0 0
        clear p19
        have qi19 : (0 < (a0.size : Int)) = True := eq_true (of_decide_eq_true (qbb1_))
        replace q19 := eq_true q19
        go_wp2_with (first | ((with_reducible refine gate_callee (f := 67) rfl ?_); refine goesL_ (some 51) rfl rfl Tryz.func67 (by kernel_rfl) rfl #[.int .i64 x4_2] rfl (qbb4_) ?_; (with_reducible refine (grommetref06_Text.calls k2 x4_2 t101 _ (hG.below (qbb2_)) A21.out).mono ?_); rintro e w24 ⟨rfl, hb⟩; refine ⟨_, rfl, ?_⟩; have n0_ := Aside0.mk (below_step (qbb0_) hb); clear HB; have HB := n0_; clear n0_; (try clear hb)))
        go_ret2
        exact ⟨qbb3_, qbb0_⟩
       rw [if_pos c22] at H
       have c22b0 : (t101.toList == a0.toList) = true := beq_iff_eq.mpr c22
       have c22b1 : (t101.toList != a0.toList) = false := bne_eq_false_iff_eq.mpr c22
       clear c22
       simp only [Option.some.injEq, Prod.mk.injEq] at H
       obtain ⟨rfl, rfl⟩ := H
       have p19 : 0 ≤ (0 : Int) := (by omega)
       have q19 : 0 < a0.size := (by have : (0 : Int) < (a0.size : Int) := of_decide_eq_true (qbb1_); omega)
       have hx19 : ∀ h : 0 < a0.size, ((a0[0]'h).toNat : Int) = bt a0 0 := bt_at a0 0
       clear p19
       have qi19 : (0 < (a0.size : Int)) = True := eq_true (of_decide_eq_true (qbb1_))
       replace q19 := eq_true q19
       go_wp2_with (first | ((with_reducible refine gate_callee (f := 67) rfl ?_); refine goesL_ (some 51) rfl rfl Tryz.func67 (by kernel_rfl) rfl #[.int .i64 x4_2] rfl (qbb4_) ?_; (with_reducible refine (grommetref06_Text.calls k2 x4_2 t101 _ (hG.below (qbb2_)) A21.out).mono ?_); rintro e w23 ⟨rfl, hb⟩; refine ⟨_, rfl, ?_⟩; have n0_ := Aside0.mk (below_step (qbb0_) hb); clear HB; have HB := n0_; clear n0_; (try clear hb)))
       go_ret2
       exact ⟨qbb3_, qbb0_⟩
      rw [if_neg c20] at H
      have c20b0 : ((bt a0 0) == 45) = false := beq_eq_false_iff_ne.mpr c20
      have c20b1 : ((bt a0 0) != 45) = true := bne_iff_ne.mpr c20
      replace H := Option.bind_eq_some_iff.mp H
      obtain ⟨t102, A250, H⟩ := H
      replace H : (if t102.toList = a0.toList then (some (wrap64 (-x4_2), true)) else (some (0, false))) = some (r1, r2) := H
      have A25 := Aside0.mk A250
      clear A250
      by_cases c26 : t102.toList = a0.toList
      rotate_left
      ·
       rw [if_neg c26] at H
       have c26b0 : (t102.toList == a0.toList) = false := beq_eq_false_iff_ne.mpr c26
       have c26b1 : (t102.toList != a0.toList) = true := bne_iff_ne.mpr c26
       simp only [Option.some.injEq, Prod.mk.injEq] at H
       obtain ⟨rfl, rfl⟩ := H
       have p19 : 0 ≤ (0 : Int) := (by omega)
       have q19 : 0 < a0.size := (by have : (0 : Int) < (a0.size : Int) := of_decide_eq_true (qbb1_); omega)
       have hx19 : ∀ h : 0 < a0.size, ((a0[0]'h).toNat : Int) = bt a0 0 := bt_at a0 0
       clear p19
       have qi19 : (0 < (a0.size : Int)) = True := eq_true (of_decide_eq_true (qbb1_))
       replace q19 := eq_true q19
       go_wp2_with (first | ((with_reducible refine gate_callee (f := 67) rfl ?_); refine goesL_ (some 51) rfl rfl Tryz.func67 (by kernel_rfl) rfl #[.int .i64 (wrap64 (-x4_2))] rfl (qbb4_) ?_; (with_reducible refine (grommetref06_Text.calls k2 (wrap64 (-x4_2)) t102 _ (hG.below (qbb2_)) A25.out).mono ?_); rintro e w28 ⟨rfl, hb⟩; refine ⟨_, rfl, ?_⟩; have n0_ := Aside0.mk (below_step (qbb0_) hb); clear HB; have HB := n0_; clear n0_; (try clear hb)))
       go_ret2
       exact ⟨qbb3_, qbb0_⟩
      rw [if_pos c26] at H
      have c26b0 : (t102.toList == a0.toList) = true := beq_iff_eq.mpr c26
      have c26b1 : (t102.toList != a0.toList) = false := bne_eq_false_iff_eq.mpr c26
      clear c26
      simp only [Option.some.injEq, Prod.mk.injEq] at H
      obtain ⟨rfl, rfl⟩ := H
      have p19 : 0 ≤ (0 : Int) := (by omega)
      have q19 : 0 < a0.size := (by have : (0 : Int) < (a0.size : Int) := of_decide_eq_true (qbb1_); omega)
      have hx19 : ∀ h : 0 < a0.size, ((a0[0]'h).toNat : Int) = bt a0 0 := bt_at a0 0
      clear p19
      have qi19 : (0 < (a0.size : Int)) = True := eq_true (of_decide_eq_true (qbb1_))
      replace q19 := eq_true q19
      go_wp2_with (first | ((with_reducible refine gate_callee (f := 67) rfl ?_); refine goesL_ (some 51) rfl rfl Tryz.func67 (by kernel_rfl) rfl #[.int .i64 (wrap64 (-x4_2))] rfl (qbb4_) ?_; (with_reducible refine (grommetref06_Text.calls k2 (wrap64 (-x4_2)) t102 _ (hG.below (qbb2_)) A25.out).mono ?_); rintro e w27 ⟨rfl, hb⟩; refine ⟨_, rfl, ?_⟩; have n0_ := Aside0.mk (below_step (qbb0_) hb); clear HB; have HB := n0_; clear n0_; (try clear hb)))
      go_ret2
      exact ⟨qbb3_, qbb0_⟩
     rw [if_pos c5] at H
     have c5b0 : decide (x5_2 < (a0.size : Int)) = true := decide_eq_true c5
     clear c5
     have HC6 := Aside0.mk H
     clear H
     go_upto_region 7 with (fail)
     go_cut [26] (fun v26 wc => ∃ (kq : Nat) (x26_5 : Bool), v26 = .bool x26_5 ∧ Aside0 (grommetref06_Number.j2 kq a0 x4_2 x5_2 x26_5 = some (r1, r2)) ∧ Aside0 (kq ≤ k2) ∧ Aside0 (Below w.heap.size w wc))
     case first =>
      have H := HC6.out
      clear HC6
      by_cases c7 : x5_2 = 0
      rotate_left
      ·
       rw [if_neg c7] at H
       have c7b0 : (x5_2 == 0) = false := beq_eq_false_iff_ne.mpr c7
       have c7b1 : (x5_2 != 0) = true := bne_iff_ne.mpr c7
       (first | rw [c7b0] | (simp only [i64_w, i32_w]; rw [c7b0]) | skip)
       have H' := Aside0.mk H
       clear H
       go_wp2
       go_meet
       case rel => exact ⟨_, (false), (qbb5_), H', ⟨by have := HJ1.out; have := HK2.out; first | omega | exact Nat.le_refl _⟩, ⟨qbb0_⟩⟩
      rw [if_pos c7] at H
      have c7b0 : (x5_2 == 0) = true := beq_iff_eq.mpr c7
      have c7b1 : (x5_2 != 0) = false := bne_eq_false_iff_eq.mpr c7
      clear c7
      (first | rw [c7b0] | (simp only [i64_w, i32_w]; rw [c7b0]) | skip)
      by_cases c8 : 0 < (a0.size : Int)
      rotate_left
      ·
       rw [if_neg c8] at H
       exact absurd H (by simp)
      rw [if_pos c8] at H
      have c8b0 : decide (0 < (a0.size : Int)) = true := decide_eq_true c8
      have c8b1 : decide (0 < a0.size) = true := decide_eq_true (by omega)
      clear c8
      have H' := Aside0.mk H
      clear H
      have p9 : 0 ≤ (0 : Int) := (by omega)
      have q9 : 0 < a0.size := (by have : (0 : Int) < (a0.size : Int) := of_decide_eq_true (qbb1_); omega)
      have hx9 : ∀ h : 0 < a0.size, ((a0[0]'h).toNat : Int) = bt a0 0 := bt_at a0 0
      clear p9
      have qi9 : (0 < (a0.size : Int)) = True := eq_true (of_decide_eq_true (qbb1_))
      replace q9 := eq_true q9
      go_wp2
      go_meet
      case rel => exact ⟨_, (((bt a0 0) == 45)), (qbb5_), H', ⟨by have := HJ1.out; have := HK2.out; first | omega | exact Nat.le_refl _⟩, ⟨qbb0_⟩⟩
     case rest =>
      clear HC6
      try clear c1
      try clear p2
      try clear c3
      try clear c3b0
      try clear c3b1
      try clear c4
      try clear c5
      try clear c5b0
      try clear c7
      try clear c7b0
      try clear c7b1
      try clear c8
      try clear c8b0
      try clear c8b1
      try clear p9
      try clear q9
      try clear hx9
      try clear qi9
      try clear p2
      try clear p9
      try clear q9
      obtain ⟨kq, x26_5, rfl, HA, HJ5, HB⟩ := hcut
      cases kq with
      | zero => exact absurd HA.out (by simp [grommetref06_Number.j2])
      | succ kj5 =>
       have H := HA.out
       clear HA
       simp only [grommetref06_Number.j2] at H
       by_cases c10 : x26_5 = true
       ·
        subst c10
        have H1 : (grommetref06_Number.l0 kj5 a0 x4_2 (wrap64 (x5_2 + 1))) = some (r1, r2) := by rw [if_pos rfl] at H; exact H
        clear H
        have H := H1
        clear H1
        have H' := Aside0.mk H
        clear H
        go_wp2
        go_roundg kj5
        case measure => have := HJ1.out; have := HK2.out; have := HJ5.out; omega
        case rel => exact ⟨(x4_2), (wrap64 (x5_2 + 1)), (qbb5_), (qbb5_), H', ⟨by have := HJ1.out; have := HK2.out; have := HJ5.out; omega⟩, ⟨qbb0_⟩⟩
       replace c10 := Bool.eq_false_iff.mpr c10
       subst c10
       have H1 : (if 0 ≤ x5_2 then (if x5_2 < (a0.size : Int) then (if (bt a0 x5_2) < 48 then (some (0, false)) else (if (bt a0 x5_2) > 57 then (some (0, false)) else (grommetref06_Number.l0 kj5 a0 (wrap64 ((wrap64 (x4_2 * 10)) - (((bt a0 x5_2) - 48) % 256))) (wrap64 (x5_2 + 1))))) else (none)) else (none)) = some (r1, r2) := by rw [if_neg (show ¬ (false = true) by decide)] at H; exact H
       clear H
       have H := H1
       clear H1
       by_cases c11 : 0 ≤ x5_2
       rotate_left
       ·
        rw [if_neg c11] at H
        exact absurd H (by simp)
       rw [if_pos c11] at H
       have c11b0 : decide (0 ≤ x5_2) = true := decide_eq_true c11
       clear c11
       by_cases c12 : x5_2 < (a0.size : Int)
       rotate_left
       ·
        rw [if_neg c12] at H
        exact absurd H (by simp)
       rw [if_pos c12] at H
       have c12b0 : decide (x5_2 < (a0.size : Int)) = true := decide_eq_true c12
       clear c12
       by_cases c14 : (bt a0 x5_2) < 48
       ·
        rw [if_pos c14] at H
        have c14b0 : decide ((bt a0 x5_2) < 48) = true := decide_eq_true c14
        clear c14
        simp only [Option.some.injEq, Prod.mk.injEq] at H
        obtain ⟨rfl, rfl⟩ := H
        have p13 : 0 ≤ (x5_2 : Int) := of_decide_eq_true (qbb1_)
        have q13 : x5_2 < (a0.size : Int) := of_decide_eq_true (qbb1_)
        have hx13 := bt_at a0 x5_2
        replace p13 := eq_true p13
        replace q13 := eq_true q13
        go_wp2
        go_ret2
        exact ⟨qbb3_, qbb0_⟩
       rw [if_neg c14] at H
       have c14b0 : decide ((bt a0 x5_2) < 48) = false := decide_eq_false c14
       clear c14
       by_cases c16 : (bt a0 x5_2) > 57
       ·
        rw [if_pos c16] at H
        have c16b0 : decide (57 < (bt a0 x5_2)) = true := decide_eq_true c16
        clear c16
        simp only [Option.some.injEq, Prod.mk.injEq] at H
        obtain ⟨rfl, rfl⟩ := H
        have p13 : 0 ≤ (x5_2 : Int) := of_decide_eq_true (qbb1_)
        have q13 : x5_2 < (a0.size : Int) := of_decide_eq_true (qbb1_)
        have hx13 := bt_at a0 x5_2
        replace p13 := eq_true p13
        replace q13 := eq_true q13
        have p15 : 0 ≤ (x5_2 : Int) := of_decide_eq_true (qbb1_)
        have q15 : x5_2 < (a0.size : Int) := of_decide_eq_true (qbb1_)
        have hx15 := bt_at a0 x5_2
        replace p15 := eq_true p15
        replace q15 := eq_true q15
        go_wp2
        go_ret2
        exact ⟨qbb3_, qbb0_⟩
       rw [if_neg c16] at H
       have c16b0 : decide (57 < (bt a0 x5_2)) = false := decide_eq_false c16
       clear c16
       have H' := Aside0.mk H
       clear H
       have p13 : 0 ≤ (x5_2 : Int) := of_decide_eq_true (qbb1_)
       have q13 : x5_2 < (a0.size : Int) := of_decide_eq_true (qbb1_)
       have hx13 := bt_at a0 x5_2
       replace p13 := eq_true p13
       replace q13 := eq_true q13
       have p15 : 0 ≤ (x5_2 : Int) := of_decide_eq_true (qbb1_)
       have q15 : x5_2 < (a0.size : Int) := of_decide_eq_true (qbb1_)
       have hx15 := bt_at a0 x5_2
       replace p15 := eq_true p15
       replace q15 := eq_true q15
       have p17 : 0 ≤ (x5_2 : Int) := of_decide_eq_true (qbb1_)
       have q17 : x5_2 < (a0.size : Int) := of_decide_eq_true (qbb1_)
       have hx17 := bt_at a0 x5_2
       replace p17 := eq_true p17
       replace q17 := eq_true q17
       go_wp2
       go_roundg kj5
       case measure => have := HJ1.out; have := HK2.out; have := HJ5.out; omega
       case rel => exact ⟨(wrap64 ((wrap64 (x4_2 * 10)) - (((bt a0 x5_2) - 48) % 256))), (wrap64 (x5_2 + 1)), (qbb5_), (qbb5_), H', ⟨by have := HJ1.out; have := HK2.out; have := HJ5.out; omega⟩, ⟨qbb0_⟩⟩
mutual
def grommetref06_Resolve.j0 : Nat → ByteArray → Bool → Bool → Option (Int)
  | 0, _, _, _ => none
  | k + 1, x0, x4, x10 => if x10 = true then (some 1) else (if x0.toList = ([116, 114, 117, 101] : List UInt8) then (grommetref06_Resolve.j1 k x4 true) else (grommetref06_Resolve.j1 k x4 (x0.toList == ([102, 97, 108, 115, 101] : List UInt8))))
def grommetref06_Resolve.j1 : Nat → Bool → Bool → Option (Int)
  | 0, _, _ => none
  | k + 1, x4, x21 => if x21 = true then (some 2) else (if x4 = true then (some 3) else (some 4))
end
def grommetref06_Resolve.f (k : Nat) (a0 : ByteArray) : Option (Int) := (grommetref06_Number.f k a0).bind fun bt101 => (if a0.toList = ([] : List UInt8) then (grommetref06_Resolve.j0 k a0 bt101.2 true) else (if a0.toList = ([126] : List UInt8) then (grommetref06_Resolve.j0 k a0 bt101.2 true) else (grommetref06_Resolve.j0 k a0 bt101.2 (a0.toList == ([110, 117, 108, 108] : List UInt8)))))
theorem qab0_ {P : Prop} (h_ : P := by repeat (first | (with_reducible first | exact HB.out | apply below_alloc | apply pw_below_drewN | apply below_drew1) | exact HB.out)) : P := h_
theorem qab1_ {P : Prop} (h_ : P := by first | rfl | (simp [errW_none, errW_some] <;> rfl) | (simp [*, errW_none, errW_some] <;> rfl)) : P := h_
theorem qab2_ {P : Prop} (h_ : P := by first | rfl | (simp; done) | (simp [*]; done)) : P := h_
set_option maxHeartbeats 8000000 in
set_option maxRecDepth 100000 in
theorem grommetref06_Resolve.calls (k : Nat) (a0 : ByteArray) (r : Int) (w : World) (hG : Glob.G w) (h : grommetref06_Resolve.f k a0 = some r) :
  Calls Tryz.prog 109 #[.string a0] w fun e w' => e = .returned (.int .i64 r) ∧ Below w.heap.size w w' := by
 have HB := Aside0.mk (Below.refl w.heap.size w)
 have H : ((grommetref06_Number.f k a0).bind fun bt101 => (if a0.toList = ([] : List UInt8) then (grommetref06_Resolve.j0 k a0 bt101.2 true) else (if a0.toList = ([126] : List UInt8) then (grommetref06_Resolve.j0 k a0 bt101.2 true) else (grommetref06_Resolve.j0 k a0 bt101.2 (a0.toList == ([110, 117, 108, 108] : List UInt8)))))) = some r := h
 clear h
 replace H := Option.bind_eq_some_iff.mp H
 obtain ⟨⟨t101, t102⟩, A20, H⟩ := H
 replace H : (if a0.toList = ([] : List UInt8) then (grommetref06_Resolve.j0 k a0 t102 true) else (if a0.toList = ([126] : List UInt8) then (grommetref06_Resolve.j0 k a0 t102 true) else (grommetref06_Resolve.j0 k a0 t102 (a0.toList == ([110, 117, 108, 108] : List UInt8))))) = some r := H
 have A2 := Aside0.mk A20
 clear A20
 have HC3 := Aside0.mk H
 clear H
 go_enter Tryz.func109, Tryz.ntmps109
 go_upto_region 2 with (first | ((with_reducible refine gate_callee (f := 130) rfl ?_); refine goesL_ (some 7) rfl rfl Tryz.func130 (by kernel_rfl) rfl #[.string a0] rfl (by (try simp only [List.map_toArray, List.map_cons, List.map_nil]); first | done | rfl | (simp only [List.length_drop, List.length_take]; rfl)) ?_; (with_reducible refine (grommetref06_Number.calls k a0 t101 t102 _ (hG.below (by first | ((repeat (first | (with_reducible first | exact HB.out | apply below_alloc | apply pw_below_drewN | apply below_drew1 | (refine Glob.below_set ?_ (by assumption) _ _ _)) | exact HB.out)); done) | (refine Drawn0.below ?_; repeat (first | exact Drawn0.refl _ | assumption | apply Drawn0.step)))) A2.out).mono ?_); rintro e w4 ⟨rfl, hb⟩; refine ⟨_, rfl, ?_⟩; have n0_ := Aside0.mk (below_step (qab0_) hb); clear HB; have HB := n0_; clear n0_; (try clear hb)))
 (try simp only [Act.put, List.setIfInBounds_toArray, List.set_cons_zero, List.set_cons_succ])
 go_cut [10] (fun v10 wc => ∃ (kq : Nat) (x10_2 : Bool), v10 = .bool x10_2 ∧ Aside0 (grommetref06_Resolve.j0 kq a0 t102 x10_2 = some r) ∧ Aside0 (kq ≤ k) ∧ Aside0 (Below w.heap.size w wc))
 case first =>
  have H := HC3.out
  clear HC3
  by_cases c5 : a0.toList = ([] : List UInt8)
  ·
   rw [if_pos c5] at H
   have c5b0 : (a0.toList == ([] : List UInt8)) = true := beq_iff_eq.mpr c5
   have c5b1 : (a0.toList != ([] : List UInt8)) = false := bne_eq_false_iff_eq.mpr c5
   clear c5
   (first | rw [c5b0] | (simp only [i64_w, i32_w]; rw [c5b0]) | skip)
   have H' := Aside0.mk H
   clear H
   go_wp2
   go_meet
   case rel => exact ⟨_, (true), (qab2_), H', ⟨by first | omega | exact Nat.le_refl _⟩, ⟨qab0_⟩⟩
  rw [if_neg c5] at H
  have c5b0 : (a0.toList == ([] : List UInt8)) = false := beq_eq_false_iff_ne.mpr c5
  have c5b1 : (a0.toList != ([] : List UInt8)) = true := bne_iff_ne.mpr c5
  (first | rw [c5b0] | (simp only [i64_w, i32_w]; rw [c5b0]) | skip)
  by_cases c6 : a0.toList = ([126] : List UInt8)
  ·
   rw [if_pos c6] at H
   have c6b0 : (a0.toList == ([126] : List UInt8)) = true := beq_iff_eq.mpr c6
   have c6b1 : (a0.toList != ([126] : List UInt8)) = false := bne_eq_false_iff_eq.mpr c6
   clear c6
   have H' := Aside0.mk H
   clear H
   go_wp2
   go_meet
   case rel => exact ⟨_, (true), (qab2_), H', ⟨by first | omega | exact Nat.le_refl _⟩, ⟨qab0_⟩⟩
  rw [if_neg c6] at H
  have c6b0 : (a0.toList == ([126] : List UInt8)) = false := beq_eq_false_iff_ne.mpr c6
  have c6b1 : (a0.toList != ([126] : List UInt8)) = true := bne_iff_ne.mpr c6
  have H' := Aside0.mk H
  clear H
  go_wp2
  go_meet
  case rel => exact ⟨_, ((a0.toList == ([110, 117, 108, 108] : List UInt8))), (qab2_), H', ⟨by first | omega | exact Nat.le_refl _⟩, ⟨qab0_⟩⟩
 case rest =>
  clear HC3
  try clear c1
  try clear p2
  try clear c5
  try clear c5b0
  try clear c5b1
  try clear c6
  try clear c6b0
  try clear c6b1
  obtain ⟨kq, x10_2, rfl, HA, HJ2, HB⟩ := hcut
  cases kq with
  | zero => exact absurd HA.out (by simp [grommetref06_Resolve.j0])
  | succ kj2 =>
   have H := HA.out
   clear HA
   simp only [grommetref06_Resolve.j0] at H
   by_cases c7 : x10_2 = true
   ·
    subst c7
    have H1 : (some 1) = some r := by rw [if_pos rfl] at H; exact H
    clear H
    have H := H1
    clear H1
    obtain rfl := Option.some.inj H
    go_wp2
    go_ret
    exact ⟨qab1_, qab0_⟩
   replace c7 := Bool.eq_false_iff.mpr c7
   subst c7
   have H1 : (if a0.toList = ([116, 114, 117, 101] : List UInt8) then (grommetref06_Resolve.j1 kj2 t102 true) else (grommetref06_Resolve.j1 kj2 t102 (a0.toList == ([102, 97, 108, 115, 101] : List UInt8)))) = some r := by rw [if_neg (show ¬ (false = true) by decide)] at H; exact H
   clear H
   have H := H1
   clear H1
   have HC8 := Aside0.mk H
   clear H
   go_upto_region 4 with (fail)
   go_cut [21] (fun v21 wc => ∃ (kq : Nat) (x21_7 : Bool), v21 = .bool x21_7 ∧ Aside0 (grommetref06_Resolve.j1 kq t102 x21_7 = some r) ∧ Aside0 (kq ≤ kj2) ∧ Aside0 (Below w.heap.size w wc))
   case first =>
    have H := HC8.out
    clear HC8
    by_cases c9 : a0.toList = ([116, 114, 117, 101] : List UInt8)
    ·
     rw [if_pos c9] at H
     have c9b0 : (a0.toList == ([116, 114, 117, 101] : List UInt8)) = true := beq_iff_eq.mpr c9
     have c9b1 : (a0.toList != ([116, 114, 117, 101] : List UInt8)) = false := bne_eq_false_iff_eq.mpr c9
     clear c9
     (first | rw [c9b0] | (simp only [i64_w, i32_w]; rw [c9b0]) | skip)
     have H' := Aside0.mk H
     clear H
     go_wp2
     go_meet
     case rel => exact ⟨_, (true), (qab2_), H', ⟨by have := HJ2.out; first | omega | exact Nat.le_refl _⟩, ⟨qab0_⟩⟩
    rw [if_neg c9] at H
    have c9b0 : (a0.toList == ([116, 114, 117, 101] : List UInt8)) = false := beq_eq_false_iff_ne.mpr c9
    have c9b1 : (a0.toList != ([116, 114, 117, 101] : List UInt8)) = true := bne_iff_ne.mpr c9
    (first | rw [c9b0] | (simp only [i64_w, i32_w]; rw [c9b0]) | skip)
    have H' := Aside0.mk H
    clear H
    go_wp2
    go_meet
    case rel => exact ⟨_, ((a0.toList == ([102, 97, 108, 115, 101] : List UInt8))), (qab2_), H', ⟨by have := HJ2.out; first | omega | exact Nat.le_refl _⟩, ⟨qab0_⟩⟩
   case rest =>
    clear HC8
    try clear c1
    try clear p2
    try clear c5
    try clear c5b0
    try clear c5b1
    try clear c6
    try clear c6b0
    try clear c6b1
    try clear c7
    try clear c9
    try clear c9b0
    try clear c9b1
    try clear p2
    obtain ⟨kq, x21_7, rfl, HA, HJ7, HB⟩ := hcut
    cases kq with
    | zero => exact absurd HA.out (by simp [grommetref06_Resolve.j1])
    | succ kj7 =>
     have H := HA.out
     clear HA
     simp only [grommetref06_Resolve.j1] at H
     by_cases c10 : x21_7 = true
     ·
      subst c10
      have H1 : (some 2) = some r := by rw [if_pos rfl] at H; exact H
      clear H
      have H := H1
      clear H1
      obtain rfl := Option.some.inj H
      go_wp2
      go_ret
      exact ⟨qab1_, qab0_⟩
     replace c10 := Bool.eq_false_iff.mpr c10
     subst c10
     have H1 : (if t102 = true then (some 3) else (some 4)) = some r := by rw [if_neg (show ¬ (false = true) by decide)] at H; exact H
     clear H
     have H := H1
     clear H1
     by_cases c11 : t102 = true
     ·
      subst c11
      have H1 : (some 3) = some r := by rw [if_pos rfl] at H; exact H
      clear H
      have H := H1
      clear H1
      obtain rfl := Option.some.inj H
      go_wp2
      go_ret
      exact ⟨qab1_, qab0_⟩
     replace c11 := Bool.eq_false_iff.mpr c11
     subst c11
     have H1 : (some 4) = some r := by rw [if_neg (show ¬ (false = true) by decide)] at H; exact H
     clear H
     have H := H1
     clear H1
     obtain rfl := Option.some.inj H
     go_wp2
     go_ret
     exact ⟨qab1_, qab0_⟩
end Go.Proofs.YtnjcpoojgmpmeaaGreatDoor.PX
namespace Go.Proofs.YtnjcpoojgmpmeaaGreatDoor.Plain
open RowKit YtnjcpoojgmpmeaaGreatDoor.Nums YtnjcpoojgmpmeaaGreatDoor.PX YtnjcpoojgmpmeaaGreatDoor.Utf YtnjcpoojgmpmeaaGreatDoor.Plug YtnjcpoojgmpmeaaGreatDoorW.PrintWords YtnjcpoojgmpmeaaGreatDoorW.PrintLast
theorem at_mem (l : List UInt8) (j : Nat) (h : j < l.length) : ∃ c ∈ l, at_ l j = c.toNat := ⟨l[j], List.getElem_mem h, by unfold at_; rw [List.getD_eq_getElem?_getD, List.getElem?_eq_getElem h]; rfl⟩
theorem bt_zero (s : ByteArray) : bt s 0 = (at_ s.data.toList 0 : Int) := bt_at_ s 0
theorem toList_mk (l : List UInt8) : (⟨l.toArray⟩ : ByteArray).data.toList = l := rfl
theorem num_itoa (n : Int) (h0 : -9223372036854775808 ≤ n) (h1 : n ≤ 9223372036854775807) : numB (Lib.itoa n) = (n, true) := by
 unfold numB
 rw [itoa_back n h0 h1]
 simp
def stepN (a : Int) (c : Nat) : Int := wrap64 (wrap64 (a * 10) - (((c : Int) - 48) % 256))
def digN (c : Nat) : Bool := decide (48 ≤ c) && decide (c ≤ 57)
def accN (l : List UInt8) (a : Int) : Int := l.foldl (fun a c => stepN a c.toNat) a
def finN (l : List UInt8) (a : Int) : Int × Bool :=
  if at_ l 0 = 45 then (if Lib.itoa a = l then (a, true) else (0, false)) else (if Lib.itoa (wrap64 (-a)) = l then (wrap64 (-a), true) else (0, false))
theorem wrap_range (n : Int) : -9223372036854775808 ≤ wrap64 n ∧ wrap64 n ≤ 9223372036854775807 := by unfold wrap64; omega
theorem acc_range (l : List UInt8) : ∀ a : Int, (-9223372036854775808 ≤ a ∧ a ≤ 9223372036854775807) → -9223372036854775808 ≤ accN l a ∧ accN l a ≤ 9223372036854775807 := by
 induction l with
 | nil => intro a h; exact h
 | cons c l ih => intro a h; exact ih _ (wrap_range _)
theorem acc_append (l m : List UInt8) (a : Int) : accN (l ++ m) a = accN m (accN l a) := by unfold accN; rw [List.foldl_append]
theorem acc_dec (u : Nat) : accN (Lib.decDigits u) 0 = wrap64 (-(u : Int)) := by
 induction u using Nat.strongRecOn with
 | _ u ih =>
  rw [Lib.decDigits]
  by_cases h : u < 10
  ·
   rw [dif_pos h]
   show stepN 0 _ = _
   unfold stepN
   rw [digit_nat u h]; unfold wrap64; omega
  rw [dif_neg h, acc_append, ih (u / 10) (by omega)]
  show stepN _ _ = _
  unfold stepN
  rw [digit_nat (u % 10) (by omega)]; unfold wrap64; omega
theorem num_l0 (k : Nat) (x0 : ByteArray) (x4 x5 : Int) : grommetref06_Number.l0 (k + 1) x0 x4 x5 = if x5 < (x0.size : Int) then (if x5 = 0 then (if 0 < (x0.size : Int) then (grommetref06_Number.j2 k x0 x4 x5 ((bt x0 0) == 45)) else (none)) else (grommetref06_Number.j2 k x0 x4 x5 false)) else (if 0 < (x0.size : Int) then (if (bt x0 0) = 45 then ((grommetref06_Text.f k x4).bind fun t186 => (if t186.toList = x0.toList then (some (x4, true)) else (some (0, false)))) else ((grommetref06_Text.f k (wrap64 (-x4))).bind fun t187 => (if t187.toList = x0.toList then (some (wrap64 (-x4), true)) else (some (0, false))))) else (none)) := by
  rw [grommetref06_Number.l0]
theorem num_j2 (k : Nat) (x0 : ByteArray) (x4 x5 : Int) : grommetref06_Number.j2 (k + 1) x0 x4 x5 false = (if 0 ≤ x5 then (if x5 < (x0.size : Int) then (if (bt x0 x5) < 48 then (some (0, false)) else (if (bt x0 x5) > 57 then (some (0, false)) else (grommetref06_Number.l0 k x0 (wrap64 ((wrap64 (x4 * 10)) - (((bt x0 x5) - 48) % 256))) (wrap64 (x5 + 1))))) else (none)) else (none)) := by
  rw [grommetref06_Number.j2, if_neg (by decide)]
theorem num_j2t (k : Nat) (x0 : ByteArray) (x4 x5 : Int) : grommetref06_Number.j2 (k + 1) x0 x4 x5 true = grommetref06_Number.l0 k x0 x4 (wrap64 (x5 + 1)) := by
  rw [grommetref06_Number.j2, if_pos rfl]
theorem num_end (K : Nat) (s : ByteArray) (a : Int) (i : Nat) (h0 : 0 < s.size) (hi : s.size ≤ i) (ha : -9223372036854775808 ≤ a ∧ a ≤ 9223372036854775807) :
  grommetref06_Number.l0 (K + 32 + 1) s a (i : Int) = some (finN s.data.toList a) := by
 have hw := wrap_range (-a)
 rw [num_l0, if_neg (by omega), if_pos (by omega), bt_zero]
 unfold finN
 by_cases q : at_ s.data.toList 0 = 45
 ·
  rw [if_pos (by omega), if_pos q, text_at a ha.1 ha.2, Option.bind_some]
  rw [Lib.toList_data, Lib.toList_data, toList_mk]
  split <;> rfl
 rw [if_neg (by omega), if_neg q, text_at _ hw.1 hw.2, Option.bind_some]
 rw [Lib.toList_data, Lib.toList_data, toList_mk]
 split <;> rfl
theorem num_enter (K : Nat) (s : ByteArray) (a : Int) (i : Nat) (h : i < s.size) (hz : i = 0 → at_ s.data.toList 0 ≠ 45) : grommetref06_Number.l0 (K + 1 + 1) s a (i : Int) = grommetref06_Number.j2 (K + 1) s a (i : Int) false := by
 have h1 : (i : Int) < (s.size : Int) := by omega
 rw [num_l0, if_pos h1]
 by_cases q : i = 0
 rotate_left
 ·
  have h2 : ¬ (i : Int) = 0 := by omega
  rw [if_neg h2]
 have hne := hz q
 have h2 : (i : Int) = 0 := by omega
 have h3 : (0 : Int) < (s.size : Int) := by omega
 rw [if_pos h2, if_pos h3, bt_zero, show (((at_ s.data.toList 0 : Nat) : Int) == 45) = false by rw [beq_eq_false_iff_ne]; exact fun e => hne (by omega)]
theorem num_enter2 (K : Nat) (s : ByteArray) (a : Int) (i : Nat) (h : i < s.size) : grommetref06_Number.j2 (K + 1) s a (i : Int) false = (if (bt s (i : Int)) < 48 then (some (0, false)) else (if (bt s (i : Int)) > 57 then (some (0, false)) else (grommetref06_Number.l0 K s (wrap64 ((wrap64 (a * 10)) - (((bt s (i : Int)) - 48) % 256))) (wrap64 ((i : Int) + 1))))) := by
 have h1 : (i : Int) < (s.size : Int) := by omega
 have h2 : (0 : Int) ≤ (i : Int) := by omega
 rw [num_j2, if_pos h2, if_pos h1]
theorem num_from (s : ByteArray) (hs : s.size ≤ 100) (h0 : 0 < s.size) : ∀ (d i K : Nat) (a : Int), s.size - i = d → i ≤ s.size → 2 * d + 40 ≤ K → (i = 0 → at_ s.data.toList 0 ≠ 45) → (-9223372036854775808 ≤ a ∧ a ≤ 9223372036854775807) →
  grommetref06_Number.l0 K s a (i : Int) = some (if (s.data.toList.drop i).all (fun c => digN c.toNat) then finN s.data.toList (accN (s.data.toList.drop i) a) else (0, false)) := by
 have hL := size_list s
 intro d
 induction d with
 | zero =>
  intro i K a hd hi hK _ ha
  obtain ⟨K, rfl⟩ : ∃ m, K = m + 32 + 1 := ⟨K - 33, by omega⟩
  rw [num_end K s a i h0 (by omega) ha, List.drop_eq_nil_of_le (by omega)]
  rfl
 | succ d ih =>
  intro i K a hd hi hK hz ha
  obtain ⟨K, rfl⟩ : ∃ m, K = m + 1 + 1 := ⟨K - 2, by omega⟩
  have his : i < s.size := by omega
  have hlt : i < s.data.toList.length := by omega
  have hdrop : s.data.toList.drop i = s.data.toList[i] :: s.data.toList.drop (i + 1) := List.drop_eq_getElem_cons hlt
  have hat : at_ s.data.toList i = (s.data.toList[i]).toNat := by unfold at_; rw [List.getD_eq_getElem?_getD, List.getElem?_eq_getElem hlt]; rfl
  have hb : bt s (i : Int) = (at_ s.data.toList i : Int) := bt_at_ s i
  have hw : wrap64 ((i : Int) + 1) = ((i + 1 : Nat) : Int) := by unfold wrap64; omega
  have hj := num_enter K s a i his hz
  have hj2 := num_enter2 K s a i his
  rw [hj, hj2, hb, hw, hdrop, List.all_cons, ← hat]
  clear hb hw hj hj2 hdrop
  by_cases q : 48 ≤ at_ s.data.toList i ∧ at_ s.data.toList i ≤ 57
  rotate_left
  ·
   have hdg : digN (at_ s.data.toList i) = false := by
    unfold digN
    rw [← Bool.decide_and]; exact decide_eq_false q
   rw [hdg]
   by_cases q1 : (at_ s.data.toList i : Int) < 48
   · rw [if_pos q1]; rfl
   rw [if_neg q1, if_pos (by omega)]; rfl
  have hdg : digN (at_ s.data.toList i) = true := by unfold digN; simp [q]
  rw [if_neg (by omega), if_neg (by omega), hdg, Bool.true_and]
  rw [ih (i + 1) K _ (by omega) (by omega) (by omega) (by omega) (wrap_range _)]
  have : accN (s.data.toList[i] :: s.data.toList.drop (i + 1)) a = accN (s.data.toList.drop (i + 1)) (wrap64 ((wrap64 (a * 10)) - (((at_ s.data.toList i : Int) - 48) % 256))) := by
   show accN _ (stepN a _) = _
   rw [← hat]; rfl
  rw [this]
def refN (l : List UInt8) : Int × Bool :=
 if l.length < 1 ∨ 20 < l.length then (0, false) else
 if at_ l 0 = 45 then (if (l.drop 1).all (fun c => digN c.toNat) then finN l (accN (l.drop 1) 0) else (0, false)) else (if l.all (fun c => digN c.toNat) then finN l (accN l 0) else (0, false))
theorem number_ref (s : ByteArray) (K : Nat) : grommetref06_Number.f (K + 100) s = some (refN s.data.toList) := by
 have hL := size_list s
 unfold grommetref06_Number.f refN
 have hj : ∀ b, grommetref06_Number.j0 (K + 100) s b = if b = true then (some (0, false)) else (grommetref06_Number.l0 (K + 99) s 0 0) := fun b => by
  rw [show K + 100 = K + 99 + 1 from rfl, grommetref06_Number.j0]
 by_cases h1 : s.size < 1
 · rw [if_pos (by omega), hj, if_pos rfl, if_pos (by omega)]
 rw [if_neg (by omega), hj]
 by_cases h2 : 20 < s.size
 · rw [if_pos (by simp; omega), if_pos (by omega)]
 rw [if_neg (by simp; omega), if_neg (by omega)]
 by_cases q : at_ s.data.toList 0 = 45
 rotate_left
 ·
  rw [if_neg q]
  have := num_from s (by omega) (by omega) s.size 0 (K + 99) 0 (by omega) (by omega) (by omega) (fun _ => q) (by decide)
  rw [show ((0 : Nat) : Int) = 0 from rfl, List.drop_zero] at this
  rw [this]
 rw [if_pos q, show K + 99 = K + 97 + 1 + 1 from rfl, num_l0, if_pos (by omega), if_pos rfl, if_pos (by omega), bt_zero, q, show (((45 : Nat) : Int) == 45) = true from rfl, num_j2t]
 rw [show wrap64 (0 + 1) = ((1 : Nat) : Int) by unfold wrap64; omega, num_from s (by omega) (by omega) (s.size - 1) 1 (K + 97) 0 rfl (by omega) (by omega) (by omega) (by decide)]
theorem fin_or (l : List UInt8) (a : Int) (ha : -9223372036854775808 ≤ a ∧ a ≤ 9223372036854775807) : finN l a = (0, false) ∨ ∃ v, (-9223372036854775808 ≤ v ∧ v ≤ 9223372036854775807) ∧ Lib.itoa v = l ∧ finN l a = (v, true) := by
 unfold finN
 split
 ·
  split
  · next h => exact .inr ⟨a, ha, h, rfl⟩
  · exact .inl rfl
 ·
  split
  · next h => exact .inr ⟨_, wrap_range _, h, rfl⟩
  · exact .inl rfl
theorem ref_or (l : List UInt8) : refN l = (0, false) ∨ ∃ v, (-9223372036854775808 ≤ v ∧ v ≤ 9223372036854775807) ∧ Lib.itoa v = l ∧ refN l = (v, true) := by
 unfold refN
 split
 · exact .inl rfl
 ·
  split
  ·
   split
   · exact fin_or l _ (acc_range _ _ (by decide))
   · exact .inl rfl
  ·
   split
   · exact fin_or l _ (acc_range _ _ (by decide))
   · exact .inl rfl
theorem dec_all (u : Nat) : (Lib.decDigits u).all (fun c => digN c.toNat) = true := by
 rw [List.all_eq_true]
 intro c hc
 have := dec_digit u c hc
 unfold digN; simp [this]
theorem dec_len20 (u : Nat) (h : u ≤ 9223372036854775808) : (Lib.decDigits u).length ≤ 19 := by
 have key : ∀ d u, u < 10 ^ (d + 1) → (Lib.decDigits u).length ≤ d + 1 := by
  intro d
  induction d with
  | zero => intro u hu; rw [Lib.decDigits, dif_pos (by simpa using hu)]; simp
  | succ d ih =>
   intro u hu
   rw [Lib.decDigits]
   by_cases q : u < 10
   · rw [dif_pos q]; simp
   rw [dif_neg q, List.length_append]
   have := ih (u / 10) (by rw [Nat.pow_succ] at hu; omega)
   simp; omega
 exact key 18 u (by omega)
theorem ref_itoa (v : Int) (h0 : -9223372036854775808 ≤ v) (h1 : v ≤ 9223372036854775807) : refN (Lib.itoa v) = (v, true) := by
 have hI : ∀ l, Lib.itoa v = l → finN l (if v < 0 then v else wrap64 (-v)) = (v, true) := by
  intro l hl
  unfold finN
  by_cases hn : v < 0
  ·
   have : at_ l 0 = 45 := by rw [← hl]; unfold Lib.itoa; rw [if_pos hn]; rfl
   rw [if_pos this, if_pos hn, if_pos hl]
  have : at_ l 0 ≠ 45 := by
   rw [← hl]; unfold Lib.itoa; rw [if_neg hn]
   obtain ⟨c, hc, e⟩ := at_mem (Lib.decDigits v.toNat) 0 (List.length_pos_iff.2 (dec_ne _))
   have := dec_digit _ c hc
   omega
  have hw : wrap64 (-(wrap64 (-v))) = v := by unfold wrap64; omega
  rw [if_neg this, if_neg hn, hw, if_pos hl]
 have hF := hI _ rfl
 unfold refN
 by_cases hn : v < 0
 ·
  rw [if_pos hn] at hF
  have e : Lib.itoa v = 45 :: Lib.decDigits v.natAbs := by unfold Lib.itoa; rw [if_pos hn]
  have hl := dec_len20 v.natAbs (by omega)
  have ha : accN (Lib.decDigits v.natAbs) 0 = v := by rw [acc_dec]; unfold wrap64; omega
  rw [e] at hF ⊢
  rw [if_neg (by simp; omega), if_pos (show at_ (45 :: Lib.decDigits v.natAbs) 0 = 45 from rfl), show (45 :: Lib.decDigits v.natAbs).drop 1 = Lib.decDigits v.natAbs from rfl, dec_all, if_pos rfl, ha, hF]
 rw [if_neg hn] at hF
 have e : Lib.itoa v = Lib.decDigits v.toNat := by unfold Lib.itoa; rw [if_neg hn]
 have hl := dec_len20 v.toNat (by omega)
 have hp := List.length_pos_iff.2 (dec_ne v.toNat)
 have ha : accN (Lib.decDigits v.toNat) 0 = wrap64 (-v) := by rw [acc_dec]; congr 1; omega
 have hz : at_ (Lib.decDigits v.toNat) 0 ≠ 45 := by
  obtain ⟨c, hc, e⟩ := at_mem (Lib.decDigits v.toNat) 0 hp
  have := dec_digit _ c hc
  omega
 rw [e] at hF ⊢
 rw [if_neg (by omega), if_neg hz, dec_all, if_pos rfl, ha, hF]
theorem ref_num (l : List UInt8) : refN l = numB l := by
 by_cases h : ∃ v, (-9223372036854775808 ≤ v ∧ v ≤ 9223372036854775807) ∧ Lib.itoa v = l
 ·
  obtain ⟨v, hv, rfl⟩ := h
  rw [ref_itoa v hv.1 hv.2, num_itoa v hv.1 hv.2]
 have hr : refN l = (0, false) := (ref_or l).resolve_right fun ⟨v, a, b, _⟩ => h ⟨v, a, b⟩
 rw [hr]
 unfold numB
 rcases hc : Lib.atoiAll l with v | _ | _
 ·
  simp only
  rw [if_neg fun e => h ⟨v, Lib.atoiAll_bounds hc, e⟩]
 · rfl
 · rfl
theorem resolve_ref (s : ByteArray) (K : Nat) : grommetref06_Resolve.f (K + 100) s = some (resB s.data.toList) := by
 have hj : ∀ a b, grommetref06_Resolve.j0 (K + 100) s a b = if b = true then (some 1) else (if s.data.toList = ([116, 114, 117, 101] : List UInt8) then (grommetref06_Resolve.j1 (K + 99) a true) else (grommetref06_Resolve.j1 (K + 99) a (s.data.toList == ([102, 97, 108, 115, 101] : List UInt8)))) := fun a b => by
  rw [show K + 100 = K + 99 + 1 from rfl, grommetref06_Resolve.j0, Lib.toList_data]
 have hk : ∀ a b, grommetref06_Resolve.j1 (K + 99) a b = if b = true then (some 2) else (if a = true then (some 3) else (some 4)) := fun a b => by
  rw [show K + 99 = K + 98 + 1 from rfl, grommetref06_Resolve.j1]
 unfold grommetref06_Resolve.f resB
 rw [number_ref, Option.bind_some, ref_num, Lib.toList_data]
 simp only [hj, hk, if_true]
 by_cases h0 : s.data.toList = []
 · simp [h0]
 by_cases h1 : s.data.toList = [126]
 · simp [h1]
 by_cases h2 : s.data.toList = [110, 117, 108, 108]
 · simp [h2]
 by_cases h3 : s.data.toList = [116, 114, 117, 101]
 · simp [h3]
 by_cases h4 : s.data.toList = [102, 97, 108, 115, 101]
 · simp [h4]
 cases (numB s.data.toList).2 <;> simp [h0, h1, h2, h3, h4]
end Go.Proofs.YtnjcpoojgmpmeaaGreatDoor.Plain
namespace Go.Proofs.YtnjcpoojgmpmeaaGreatDoor.PX
open RowKit YtnjcpoojgmpmeaaGreatDoorW.PrintWords YtnjcpoojgmpmeaaGreatDoorW.PrintLast YtnjcpoojgmpmeaaGreatDoorW.PrintMore YtnjcpoojgmpmeaaGreatDoor
attribute [local go_sem] max2_int min2_int max_two min_two max_three min_three max_four min_four   -- for this text's walks alone
set_option linter.unusedVariables false
set_option linter.unusedSimpArgs false
def grommetref01_Decode.l0 : Nat → ByteArray → List Int → Int → Option (List Int × Int × Int)
  | 0, _, _, _ => none
  | k + 1, x0, x4, x5 => if x5 < (x0.size : Int) then (if 0 ≤ x5 then (if x5 ≤ (x0.size : Int) then ((grommetref01_First.f k (x0.extract (x5 : Int).toNat x0.size)).bind fun bt102 => (if bt102.1 < 0 then (some (([] : List Int), 8, x5)) else (if x4.length < 17592186044416 then (grommetref01_Decode.l0 k x0 (x4 ++ [bt102.1]) (wrap64 (x5 + bt102.2))) else (none)))) else (none)) else (none)) else (some (x4, 0, 0))
def grommetref01_Decode.f (k : Nat) (a0 : ByteArray) : Option (List Int × Int × Int) := grommetref01_Decode.l0 k a0 ([] : List Int) 0
theorem qcb0_ {P : Prop} (h_ : P := by repeat (first | (with_reducible first | exact HB.out | apply below_alloc | apply pw_below_drewN | apply below_drew1 | refine below_set ?_ GE101.out) | exact HB.out)) : P := h_
theorem qcb1_ {P : Prop} (h_ : P := by (with_reducible repeat (first | refine blk_drewN ?_ _ | refine blk_drew ?_ | refine blk_alloc ?_ _)); exact BK101.out) : P := h_
theorem qcb2_ {P : Prop} (h_ : P := by first | ((repeat (first | (with_reducible first | exact HB.out | apply below_alloc | apply pw_below_drewN | apply below_drew1 | (refine Glob.below_set ?_ (by assumption) _ _ _)) | exact HB.out)); done) | (refine Drawn0.below ?_; repeat (first | exact Drawn0.refl _ | assumption | apply Drawn0.step))) : P := h_
theorem qcb3_ {P : Prop} (h_ : P := by repeat (first | (with_reducible first | exact HB.out | apply below_alloc | apply pw_below_drewN | apply below_drew1) | exact HB.out)) : P := h_
theorem qcb4_ {P : Prop} (h_ : P := by (with_reducible repeat (first | apply Kd.R_alloc | apply Kd.R_drewN | apply Kd.R_drew)); exact HO_4.out) : P := h_
theorem qcb5_ {P : Prop} (h_ : P := by first | exact Kd.R_nil _ _ _ _ _ | exact Kd.N_nil _ _ _ _ _ | exact Kd.V_nil _ _ _ _ _ | exact Kd.Q_nil _ _ _ _ _ | exact Kd.S_nil _ _ _ _ _) : P := h_
theorem qcb6_ {P : Prop} (h_ : P := by (try simp only [List.map_toArray, List.map_cons, List.map_nil]); first | done | rfl | (simp only [List.length_drop, List.length_take]; rfl)) : P := h_
set_option maxHeartbeats 8000000 in
set_option maxRecDepth 100000 in
theorem grommetref01_Decode.calls (k : Nat) (a0 : ByteArray) (r1 : List Int) (r2 : Int) (r3 : Int) (w : World) (hG : Glob.G w) (h : grommetref01_Decode.f k a0 = some (r1, r2, r3)) :
  Calls Tryz.prog 110 #[.string a0] w fun e w' => ∃ v0_ : Value, e = .returned (.tuple #[v0_, .agg #[.int .i64 r2, .int .i64 r3]]) ∧ Kd.R (Kd.int .i64) 3 w' w.heap.size (fun _ => True) v0_ r1 ∧ Below w.heap.size w w' := by
 have hu143 := Tryz.underlying143
 have HB := Aside0.mk (Below.refl w.heap.size w)
 have H : (grommetref01_Decode.l0 k a0 ([] : List Int) 0) = some (r1, r2, r3) := h
 clear h
 have H' := Aside0.mk H
 clear H
 go_enter Tryz.func110, Tryz.ntmps110
 go_wp2_with (first | ((with_reducible refine gate_dst (N := 3) rfl ?_); refine box_event ?hg (N := 3) ?hd (cs := #[.int .i64 0, .int .i64 0]) (t := 143) ?hr ?_; (case hd => rfl); (case hg => rfl); (case hr => first | (go_simp; done) | (go_simp; rfl)); intro gb101 hg w2 hbox hb; have n0_ := Aside0.mk (below_step (qcb3_) hb); have n1_ := Aside0.mk (hbox); have n2_ := Aside0.mk ((by rw [hg]; exact (below_size (qcb3_)) : w.heap.size ≤ gb101)); have n3_ := Aside0.mk ((by rw [hg]; exact (below_size (qcb3_)) : w.heap.size ≤ gb101)); clear HB; have HB := n0_; have BK101 := n1_; have GW101 := n2_; have GE101 := n3_; clear n0_ n1_ n2_ n3_; clear hb hbox hg))
 go_loopg [4, 5] k (fun kq v4 v5 w' => ∃ (x4_1 : List Int) (x5_1 : Int) (x102000_1 : Int) (x102001_1 : Int), v5 = .int .i64 x5_1 ∧ Aside0 (grommetref01_Decode.l0 kq a0 x4_1 x5_1 = some (r1, r2, r3)) ∧ Aside0 (kq ≤ k) ∧ Aside0 (Kd.R (Kd.int .i64) 3 w' w.heap.size (fun _ => True) v4 x4_1) ∧ Aside0 (w'.heap[gb101]? = some (.cells #[.int .i64 x102000_1, .int .i64 x102001_1] 143 (0, 0))) ∧ Aside0 (Below w.heap.size w w'))
 case atStart => exact ⟨(([] : List Int)), (0), (0), (0), (by first | rfl | (simp; done) | (simp [*]; done)), H', ⟨Nat.le_refl _⟩, ⟨qcb5_⟩, ⟨qcb1_⟩, ⟨qcb0_⟩⟩
 case round =>
  clear H'
  try clear c1
  try clear p2
  obtain ⟨x4_1, x5_1, x102000_1, x102001_1, rfl, HA, HK1, HO_4, BK101, HB⟩ := hrel
  cases gk with
  | zero => exact absurd HA.out (by simp [grommetref01_Decode.l0])
  | succ k1 =>
   have H := HA.out
   clear HA
   simp only [grommetref01_Decode.l0] at H
   by_cases c3 : x5_1 < (a0.size : Int)
   rotate_left
   ·
    rw [if_neg c3] at H
    have c3b0 : decide (x5_1 < (a0.size : Int)) = false := decide_eq_false c3
    clear c3
    simp only [Option.some.injEq, Prod.mk.injEq] at H
    obtain ⟨rfl, rfl, rfl⟩ := H
    have hcz13_0 : wr.cell? ⟨gb101, 0, none⟩ = some (.int .i64 x102000_1) := (blk_cell BK101.out 0).trans rfl
    have hcz13_1 : wr.cell? ⟨gb101, 1, none⟩ = some (.int .i64 x102001_1) := (blk_cell BK101.out 1).trans rfl
    have hfz13_0 := blk_frozen BK101.out 0
    have hfz13_1 := blk_frozen BK101.out 1
    go_wp2
    refine bodyPost_ret (results_tc rfl _ _ gb101 143 #[.int .i64 0, .int .i64 0] (0, 0) _ rfl (by (with_reducible repeat (first | refine blk_drewN ?_ _ | refine blk_drew ?_ | refine blk_alloc ?_ _)); refine blk_put (cs := #[.int .i64 0, .int .i64 x102001_1]) ?_ 1 _ rfl; (with_reducible repeat (first | refine blk_drewN ?_ _ | refine blk_drew ?_ | refine blk_alloc ?_ _)); refine blk_put (cs := #[.int .i64 x102000_1, .int .i64 x102001_1]) ?_ 0 _ rfl; (with_reducible repeat (first | refine blk_drewN ?_ _ | refine blk_drew ?_ | refine blk_alloc ?_ _)); exact BK101.out) Tryz.underlying143 rfl (by kernel_rfl)) rfl ?_
    exact ⟨_, by first | rfl | (simp [errW_none, errW_some] <;> rfl) | (simp [*, errW_none, errW_some] <;> rfl), by (with_reducible repeat (first | apply Kd.R_alloc | apply Kd.R_drewN | apply Kd.R_drew)); exact Kd.R_mono (Kd.R_far (p := ⟨gb101, 1, none⟩) (Kd.R_far (p := ⟨gb101, 0, none⟩) (Kd.R_types HO_4.out BK101.out (by decide)) (fun _ hk => hk.2) (.int .i64 0)) (fun _ hk => hk.2) (.int .i64 0)) (fun _ hk => trivial), qcb0_⟩
   rw [if_pos c3] at H
   have c3b0 : decide (x5_1 < (a0.size : Int)) = true := decide_eq_true c3
   clear c3
   by_cases c4 : 0 ≤ x5_1
   rotate_left
   ·
    rw [if_neg c4] at H
    exact absurd H (by simp)
   rw [if_pos c4] at H
   have c4b0 := eq_true c4
   have c4b1 : decide (0 ≤ x5_1) = true := decide_eq_true c4
   clear c4
   by_cases c5 : x5_1 ≤ (a0.size : Int)
   rotate_left
   ·
    rw [if_neg c5] at H
    exact absurd H (by simp)
   rw [if_pos c5] at H
   have c5b0 := eq_true c5
   have c5b1 : decide (x5_1 ≤ (a0.size : Int)) = true := decide_eq_true c5
   clear c5
   replace H := Option.bind_eq_some_iff.mp H
   obtain ⟨⟨t102, t103⟩, A60, H⟩ := H
   replace H : (if t102 < 0 then (some (([] : List Int), 8, x5_1)) else (if x4_1.length < 17592186044416 then (grommetref01_Decode.l0 k1 a0 (x4_1 ++ [t102]) (wrap64 (x5_1 + t103))) else (none))) = some (r1, r2, r3) := H
   have A6 := Aside0.mk A60
   clear A60
   by_cases c7 : t102 < 0
   ·
    rw [if_pos c7] at H
    have c7b0 : decide (t102 < 0) = true := decide_eq_true c7
    clear c7
    simp only [Option.some.injEq, Prod.mk.injEq] at H
    obtain ⟨rfl, rfl, rfl⟩ := H
    go_wp2_with (first | ((with_reducible refine gate_callee (f := 131) rfl ?_); refine goesL_ (some 16) rfl rfl Tryz.func131 (by kernel_rfl) rfl #[.string (a0.extract (x5_1 : Int).toNat a0.size)] rfl (qcb6_) ?_; (with_reducible refine (grommetref01_First.calls k1 (a0.extract (x5_1 : Int).toNat a0.size) t102 t103 _ (hG.below (qcb2_)) A6.out).mono ?_); rintro e w8 ⟨rfl, hb⟩; refine ⟨_, rfl, ?_⟩; have n0_ := Aside0.mk (Kd.R_below (qcb4_) hb); have n1_ := Aside0.mk (blk_below (g := gb101) (o := .cells #[.int .i64 x102000_1, .int .i64 x102001_1] 143 (0, 0)) (qcb1_) hb); have n2_ := Aside0.mk (below_step (qcb0_) hb); clear HO_4; clear BK101; clear HB; have HO_4 := n0_; have BK101 := n1_; have HB := n2_; clear n0_ n1_ n2_; (try clear hb); (try clear hk); have hcz9_0 : w8.cell? ⟨gb101, 0, none⟩ = some (.int .i64 x102000_1) := (blk_cell BK101.out 0).trans rfl; have hcz9_1 : w8.cell? ⟨gb101, 1, none⟩ = some (.int .i64 x102001_1) := (blk_cell BK101.out 1).trans rfl; have hfz9_0 := blk_frozen BK101.out 0; have hfz9_1 := blk_frozen BK101.out 1))
    refine bodyPost_ret (results_tc rfl _ _ gb101 143 #[.int .i64 8, .int .i64 x5_1] (0, 0) _ rfl (by (with_reducible repeat (first | refine blk_drewN ?_ _ | refine blk_drew ?_ | refine blk_alloc ?_ _)); refine blk_put (cs := #[.int .i64 8, .int .i64 x102001_1]) ?_ 1 _ rfl; (with_reducible repeat (first | refine blk_drewN ?_ _ | refine blk_drew ?_ | refine blk_alloc ?_ _)); refine blk_put (cs := #[.int .i64 x102000_1, .int .i64 x102001_1]) ?_ 0 _ rfl; (with_reducible repeat (first | refine blk_drewN ?_ _ | refine blk_drew ?_ | refine blk_alloc ?_ _)); exact BK101.out) Tryz.underlying143 rfl (by kernel_rfl)) rfl ?_
    exact ⟨_, by first | rfl | (simp [errW_none, errW_some] <;> rfl) | (simp [*, errW_none, errW_some] <;> rfl), qcb5_, qcb0_⟩
   rw [if_neg c7] at H
   have c7b0 : decide (t102 < 0) = false := decide_eq_false c7
   clear c7
   by_cases c10 : x4_1.length < 17592186044416
   rotate_left
   ·
    rw [if_neg c10] at H
    exact absurd H (by simp)
   rw [if_pos c10] at H
   have LMc10 := Aside0.mk c10
   clear c10
   obtain ⟨y104, hy104⟩ : ∃ y_ : List Int, y_ = (x4_1 ++ [t102]) := ⟨_, rfl⟩
   replace H : (grommetref01_Decode.l0 k1 a0 y104 (wrap64 (x5_1 + t103))) = some (r1, r2, r3) := by first | (rw [hy104]; with_reducible exact H) | (have H2_ := (Option.bind_some _ _).symm.trans H; rw [hy104]; with_reducible exact H2_) | (have H2_ := (Option.bind_some _ _).symm.trans H; with_reducible exact H2_) | with_reducible exact H | (rw [hy104]; exact H) | exact H
   have Ny104 := Aside0.mk hy104
   clear hy104
   have H' := Aside0.mk H
   clear H
   go_wp2_with (first | ((with_reducible refine gate_callee (f := 131) rfl ?_); refine goesL_ (some 16) rfl rfl Tryz.func131 (by kernel_rfl) rfl #[.string (a0.extract (x5_1 : Int).toNat a0.size)] rfl (qcb6_) ?_; (with_reducible refine (grommetref01_First.calls k1 (a0.extract (x5_1 : Int).toNat a0.size) t102 t103 _ (hG.below (qcb2_)) A6.out).mono ?_); rintro e w11 ⟨rfl, hb⟩; refine ⟨_, rfl, ?_⟩; have n0_ := Aside0.mk (Kd.R_below (qcb4_) hb); have n1_ := Aside0.mk (blk_below (g := gb101) (o := .cells #[.int .i64 x102000_1, .int .i64 x102001_1] 143 (0, 0)) (qcb1_) hb); have n2_ := Aside0.mk (below_step (qcb0_) hb); clear HO_4; clear BK101; clear HB; have HO_4 := n0_; have BK101 := n1_; have HB := n2_; clear n0_ n1_ n2_; (try clear hb); (try clear hk)) | ((with_reducible refine gate_builtin (b := .append) (xs := #[.tmp 23, .tmp 25]) rfl ?_); at_builtin; refine Kd.R_append (Kd.int .i64) (w0 := w) w.heap.size rfl (.tmp 23) (.tmp 25) 40 3 (.int .i64 0) 8 rfl Tryz.underlying40 info3 rfl (by decide) (by omega) u4 x4_1 t102 [.int .i64 t102] (fun _ => True) (fun _ => False) rfl rfl ?aP (fun _ hk => hk.elim) ?aF ?aO ?aB ?aS ?aL ?_; (case aP => exact rfl); (case aB => exact (qcb0_)); (case aF => exact (fun _ _ => trivial)); (case aO => exact (qcb4_)); (case aS => exact (below_size (qcb0_))); (case aL => have := LMc10.out; omega); intro v105 w12 ho hb hg hat; rw [← Ny104.out] at ho; have n0_ := Aside0.mk (blk_grown (g := gb101) (o := .cells #[.int .i64 x102000_1, .int .i64 x102001_1] 143 (0, 0)) (qcb1_) hg (Kd.R_ne HO_4.out BK101.out (by decide))); have n1_ := Aside0.mk (hb); have n2_ := Aside0.mk (ho); clear BK101; clear HB; clear HO_4; have BK101 := n0_; have HB := n1_; have HO106 := n2_; clear n0_ n1_ n2_; clear ho hb hg hat))
   go_roundg k1
   case measure => have := HK1.out; omega
   case rel => exact ⟨(y104), (wrap64 (x5_1 + t103)), (x102000_1), (x102001_1), (by first | rfl | (simp; done) | (simp [*]; done)), H', ⟨by have := HK1.out; omega⟩, ⟨by (with_reducible repeat (first | apply Kd.R_alloc | apply Kd.R_drewN | apply Kd.R_drew)); exact HO106.out⟩, ⟨qcb1_⟩, ⟨qcb0_⟩⟩
end Go.Proofs.YtnjcpoojgmpmeaaGreatDoor.PX
namespace Go.Proofs.YtnjcpoojgmpmeaaGreatDoor.Utf
open RowKit YtnjcpoojgmpmeaaGreatDoor.PX YtnjcpoojgmpmeaaGreatDoor.Plug YtnjcpoojgmpmeaaGreatDoorW.PrintWords YtnjcpoojgmpmeaaGreatDoorW.PrintLast
theorem wrapN (a b : Nat) (h : a + b ≤ 9007199254740992) : wrap64 ((a : Int) + (b : Int)) = ((a + b : Nat) : Int) := by unfold wrap64; omega
def decT (r : List Int × Nat) (n : Nat) : List Int × Int × Int := if r.2 < n then ([], 8, (r.2 : Int)) else (r.1, 0, 0)
theorem dec_l0 (s : ByteArray) (hs : s.size ≤ 1099511627775) : ∀ (k i K : Nat) (acc : List Int), i ≤ s.size → s.size ≤ i + k → acc.length ≤ i → k + 30 ≤ K →
  grommetref01_Decode.l0 K s acc (i : Int) = some (decT (goF k s.data.toList i acc) s.size) := by
 have hL := size_list s
 intro k
 induction k with
 | zero =>
  intro i K acc hi hk hal hK
  obtain ⟨K, rfl⟩ : ∃ m, K = m + 1 := ⟨K - 1, by omega⟩
  rw [grommetref01_Decode.l0, if_neg (by omega), goF]
  unfold decT; rw [if_neg (by dsimp only; omega)]
 | succ k ih =>
  intro i K acc hi hk hal hK
  obtain ⟨K, rfl⟩ : ∃ m, K = m + 20 + 1 := ⟨K - 21, by omega⟩
  rw [grommetref01_Decode.l0]
  by_cases c : i < s.size
  rotate_left
  ·
   rw [if_neg (by omega), goF_end _ _ _ _ (show ¬ i < s.data.toList.length by omega)]
   unfold decT; rw [if_neg (by dsimp only; exact c)]
  have hlen : (s.data.toList.drop i).length = s.size - i := by rw [List.length_drop, ← hL]
  have hne : s.data.toList.drop i ≠ [] := fun e => by rw [e, List.length_nil] at hlen; omega
  have hw := dec_wide _ hne
  rw [hlen] at hw
  have hF := first_eq K (s.extract i s.size)
  rw [drop_list] at hF
  rw [if_pos (show (i : Int) < (s.size : Int) by omega), if_pos (Int.natCast_nonneg i), if_pos (show (i : Int) ≤ (s.size : Int) by omega), Int.toNat_natCast, hF, Option.bind_some, goF, if_pos (show i < s.data.toList.length by omega)]
  dsimp only
  generalize dec (s.data.toList.drop i) = d at *
  obtain ⟨r, n⟩ := d
  simp only at hw ⊢
  by_cases d : r < 0
  ·
   rw [if_pos d, if_pos d]
   unfold decT; rw [if_pos (by dsimp only; exact c)]
  rw [if_neg d, if_neg d, if_pos (by omega), wrapN i n (by omega)]
  exact ih (i + n) (K + 20) _ (by omega) (by omega) (by rw [List.length_append, List.length_singleton]; omega) (by omega)
theorem ref_decode (s : ByteArray) (hs : s.size ≤ 1099511627775) (K : Nat) (hK : s.size + 30 ≤ K) : grommetref01_Decode.f K s = some (decodeB s.data.toList) := by
 have hL := size_list s
 unfold grommetref01_Decode.f
 rw [show (0 : Int) = ((0 : Nat) : Int) from rfl, dec_l0 s hs s.size 0 K [] (Nat.zero_le _) (by omega) (by simp) (by omega)]
 unfold decT decodeB goB
 rw [← hL]
end Go.Proofs.YtnjcpoojgmpmeaaGreatDoor.Utf
namespace Go.Proofs.YtnjcpoojgmpmeaaGreatDoor.PX
open RowKit YtnjcpoojgmpmeaaGreatDoorW.PrintWords YtnjcpoojgmpmeaaGreatDoorW.PrintLast YtnjcpoojgmpmeaaGreatDoorW.PrintMore YtnjcpoojgmpmeaaGreatDoor
attribute [local go_sem] max2_int min2_int max_two min_two max_three min_three max_four min_four   -- for this text's walks alone
set_option linter.unusedVariables false
set_option linter.unusedSimpArgs false
def grommetref12_text.f (k : Nat) (a0 : Int) (a1 : ByteArray) : Option (Bool) := if a0 = 2 then (if a1.toList = ([116, 114, 117, 101] : List UInt8) then (some true) else (some (a1.toList == ([102, 97, 108, 115, 101] : List UInt8)))) else (if a0 = 3 then ((grommetref06_Resolve.f k a1).bind fun t101 => (some (t101 == 3))) else (if a0 = 4 then ((grommetref01_Decode.f k a1).bind fun bt102 => (some (bt102.2.1 == 0))) else (some (a1.toList == ([] : List UInt8)))))
theorem qdb0_ {P : Prop} (h_ : P := by repeat (first | (with_reducible first | exact HB.out | apply below_alloc | apply pw_below_drewN | apply below_drew1) | exact HB.out)) : P := h_
theorem qdb1_ {P : Prop} (h_ : P := by first | rfl | (simp [errW_none, errW_some] <;> rfl) | (simp [*, errW_none, errW_some] <;> rfl)) : P := h_
theorem qdb2_ {P : Prop} (h_ : P := by first | ((repeat (first | (with_reducible first | exact HB.out | apply below_alloc | apply pw_below_drewN | apply below_drew1 | (refine Glob.below_set ?_ (by assumption) _ _ _)) | exact HB.out)); done) | (refine Drawn0.below ?_; repeat (first | exact Drawn0.refl _ | assumption | apply Drawn0.step))) : P := h_
theorem qdb3_ {P : Prop} (h_ : P := by (try simp only [List.map_toArray, List.map_cons, List.map_nil]); first | done | rfl | (simp only [List.length_drop, List.length_take]; rfl)) : P := h_
set_option maxHeartbeats 8000000 in
set_option maxRecDepth 100000 in
theorem grommetref12_text.calls (k : Nat) (a0 : Int) (a1 : ByteArray) (r : Bool) (w : World) (hG : Glob.G w) (h : grommetref12_text.f k a0 a1 = some r) :
  Calls Tryz.prog 85 #[.int .i64 a0, .string a1] w fun e w' => e = .returned (.bool r) ∧ Below w.heap.size w w' := by
 have hu143 := Tryz.underlying143
 have HB := Aside0.mk (Below.refl w.heap.size w)
 have H : (if a0 = 2 then (if a1.toList = ([116, 114, 117, 101] : List UInt8) then (some true) else (some (a1.toList == ([102, 97, 108, 115, 101] : List UInt8)))) else (if a0 = 3 then ((grommetref06_Resolve.f k a1).bind fun t101 => (some (t101 == 3))) else (if a0 = 4 then ((grommetref01_Decode.f k a1).bind fun bt102 => (some (bt102.2.1 == 0))) else (some (a1.toList == ([] : List UInt8)))))) = some r := h
 clear h
 by_cases c3 : a0 = 2
 ·
  rw [if_pos c3] at H
  have c3b0 : (a0 == 2) = true := beq_iff_eq.mpr c3
  have c3b1 : (a0 != 2) = false := bne_eq_false_iff_eq.mpr c3
  clear c3
  by_cases c4 : a1.toList = ([116, 114, 117, 101] : List UInt8)
  rotate_left
  ·
   rw [if_neg c4] at H
   have c4b0 : (a1.toList == ([116, 114, 117, 101] : List UInt8)) = false := beq_eq_false_iff_ne.mpr c4
   have c4b1 : (a1.toList != ([116, 114, 117, 101] : List UInt8)) = true := bne_iff_ne.mpr c4
   obtain rfl := Option.some.inj H
   go_enter Tryz.func85, Tryz.ntmps85
   go_wp2
   go_ret
   exact ⟨qdb1_, qdb0_⟩
  rw [if_pos c4] at H
  have c4b0 : (a1.toList == ([116, 114, 117, 101] : List UInt8)) = true := beq_iff_eq.mpr c4
  have c4b1 : (a1.toList != ([116, 114, 117, 101] : List UInt8)) = false := bne_eq_false_iff_eq.mpr c4
  clear c4
  obtain rfl := Option.some.inj H
  go_enter Tryz.func85, Tryz.ntmps85
  go_wp2
  go_ret
  exact ⟨qdb1_, qdb0_⟩
 rw [if_neg c3] at H
 have c3b0 : (a0 == 2) = false := beq_eq_false_iff_ne.mpr c3
 have c3b1 : (a0 != 2) = true := bne_iff_ne.mpr c3
 by_cases c5 : a0 = 3
 ·
  rw [if_pos c5] at H
  have c5b0 : (a0 == 3) = true := beq_iff_eq.mpr c5
  have c5b1 : (a0 != 3) = false := bne_eq_false_iff_eq.mpr c5
  clear c5
  replace H := Option.bind_eq_some_iff.mp H
  obtain ⟨t101, A60, H⟩ := H
  replace H : (some (t101 == 3)) = some r := H
  have A6 := Aside0.mk A60
  clear A60
  obtain rfl := Option.some.inj H
  go_enter Tryz.func85, Tryz.ntmps85
  go_wp2_with (first | ((with_reducible refine gate_callee (f := 109) rfl ?_); refine goesL_ (some 19) rfl rfl Tryz.func109 (by kernel_rfl) rfl #[.string a1] rfl (qdb3_) ?_; (with_reducible refine (grommetref06_Resolve.calls k a1 t101 _ (hG.below (qdb2_)) A6.out).mono ?_); rintro e w7 ⟨rfl, hb⟩; refine ⟨_, rfl, ?_⟩; have n0_ := Aside0.mk (below_step (qdb0_) hb); clear HB; have HB := n0_; clear n0_; (try clear hb)))
  go_ret
  exact ⟨qdb1_, qdb0_⟩
 rw [if_neg c5] at H
 have c5b0 : (a0 == 3) = false := beq_eq_false_iff_ne.mpr c5
 have c5b1 : (a0 != 3) = true := bne_iff_ne.mpr c5
 by_cases c8 : a0 = 4
 rotate_left
 ·
  rw [if_neg c8] at H
  have c8b0 : (a0 == 4) = false := beq_eq_false_iff_ne.mpr c8
  have c8b1 : (a0 != 4) = true := bne_iff_ne.mpr c8
  obtain rfl := Option.some.inj H
  go_enter Tryz.func85, Tryz.ntmps85
  go_wp2
  go_ret
  exact ⟨qdb1_, qdb0_⟩
 rw [if_pos c8] at H
 have c8b0 : (a0 == 4) = true := beq_iff_eq.mpr c8
 have c8b1 : (a0 != 4) = false := bne_eq_false_iff_eq.mpr c8
 clear c8
 replace H := Option.bind_eq_some_iff.mp H
 obtain ⟨⟨t102, t105, t106⟩, A90, H⟩ := H
 replace H : (some (t105 == 0)) = some r := H
 have A9 := Aside0.mk A90
 clear A90
 obtain rfl := Option.some.inj H
 go_enter Tryz.func85, Tryz.ntmps85
 go_wp2_with (first | ((with_reducible refine gate_callee (f := 110) rfl ?_); refine goesL_ (some 25) rfl rfl Tryz.func110 (by kernel_rfl) rfl #[.string a1] rfl (qdb3_) ?_; (with_reducible refine (grommetref01_Decode.calls k a1 t102 t105 t106 _ (hG.below (qdb2_)) A9.out).mono ?_); rintro e w10 ⟨v103, rfl, ho0, hb⟩; refine ⟨_, rfl, ?_⟩; have n0_ := Aside0.mk (Kd.R_lower ho0 (below_size (qdb0_))); have n1_ := Aside0.mk (below_step (qdb0_) hb); clear HB; have HO104 := n0_; have HB := n1_; clear n0_ n1_; (try clear hb); (try clear ho0)) | ((with_reducible refine gate_dst (N := 6) rfl ?_); refine box_event ?hg (N := 6) ?hd (cs := #[.int .i64 0, .int .i64 0]) (t := 143) ?hr ?_; (case hd => rfl); (case hg => rfl); (case hr => first | (go_simp; done) | (go_simp; rfl)); intro gb107 hg w11 hbox hb; have n0_ := Aside0.mk (Kd.R_below (by (with_reducible repeat (first | apply Kd.R_alloc | apply Kd.R_drewN | apply Kd.R_drew)); exact HO104.out) hb); have n1_ := Aside0.mk (below_step (qdb0_) hb); have n2_ := Aside0.mk (hbox); have n3_ := Aside0.mk ((by rw [hg]; exact (below_size (qdb0_)) : w.heap.size ≤ gb107)); have n4_ := Aside0.mk ((by rw [hg]; exact (below_size (qdb0_)) : w.heap.size ≤ gb107)); clear HO104; clear HB; have HO104 := n0_; have HB := n1_; have BK107 := n2_; have GW107 := n3_; have GE107 := n4_; clear n0_ n1_ n2_ n3_ n4_; clear hb hbox hg; have hcz12_0 : w11.cell? ⟨gb107, 0, none⟩ = some (.int .i64 0) := (blk_cell BK107.out 0).trans rfl; have hcz12_1 : w11.cell? ⟨gb107, 1, none⟩ = some (.int .i64 0) := (blk_cell BK107.out 1).trans rfl; have hfz12_0 := blk_frozen BK107.out 0; have hfz12_1 := blk_frozen BK107.out 1))
 go_ret
 exact ⟨qdb1_, by repeat (first | (with_reducible first | exact HB.out | apply below_alloc | apply pw_below_drewN | apply below_drew1 | refine below_set ?_ GE107.out) | exact HB.out)⟩
end Go.Proofs.YtnjcpoojgmpmeaaGreatDoor.PX
namespace Go.Proofs.YtnjcpoojgmpmeaaGreatDoor.Plug
open RowKit YtnjcpoojgmpmeaaGreatDoor YtnjcpoojgmpmeaaGreatDoor.PX YtnjcpoojgmpmeaaGreatDoor.Utf YtnjcpoojgmpmeaaGreatDoor.Plain YtnjcpoojgmpmeaaGreatDoorW.PrintWords YtnjcpoojgmpmeaaGreatDoorW.PrintLast
theorem res_bool (l : List UInt8) : (resB l == 2) = (decide (l = [116, 114, 117, 101]) || (l == [102, 97, 108, 115, 101])) := by
 unfold resB
 by_cases h0 : l = [] ∨ l = [126] ∨ l = [110, 117, 108, 108]
 · rw [if_pos h0]; rcases h0 with rfl | rfl | rfl <;> rfl
 rw [if_neg h0]
 by_cases h1 : l = [116, 114, 117, 101] ∨ l = [102, 97, 108, 115, 101]
 · rw [if_pos h1]; rcases h1 with rfl | rfl <;> rfl
 rw [if_neg h1]
 have e1 : ¬ l = [116, 114, 117, 101] := fun h => h1 (.inl h)
 have e2 : ¬ l = [102, 97, 108, 115, 101] := fun h => h1 (.inr h)
 have e3 : (l == [102, 97, 108, 115, 101]) = false := beq_eq_false_iff_ne.2 e2
 rw [decide_eq_false e1, e3]
 split <;> rfl
theorem dec_why (l : List UInt8) : ((decodeB l).2.1 == 0) = ((decodeB l).2.1 == 0 && (decodeB l).2.2 == 0) := by
 unfold decodeB
 split
 · rfl
 · rfl
theorem refText_of (s : ByteArray) (hs : s.size ≤ 1099511627775) (kd : Int) (K : Nat) (hK : s.size + 130 ≤ K) : grommetref12_text.f K kd s = some (textB kd s) := by
 obtain ⟨K, rfl⟩ : ∃ m, K = m + 100 := ⟨K - 100, by omega⟩
 unfold grommetref12_text.f textB
 by_cases h2 : kd = 2
 ·
  rw [if_pos h2, if_pos h2, res_bool, Lib.toList_data]
  by_cases h : s.data.toList = [116, 114, 117, 101]
  · rw [if_pos h, decide_eq_true h]; rfl
  rw [if_neg h, decide_eq_false h]; rfl
 rw [if_neg h2, if_neg h2]
 by_cases h3 : kd = 3
 · rw [if_pos h3, if_pos h3, resolve_ref, Option.bind_some]
 rw [if_neg h3, if_neg h3]
 by_cases h4 : kd = 4
 rotate_left
 · rw [if_neg h4, if_neg h4]
 rw [if_pos h4, if_pos h4, ref_decode s hs _ (by omega), Option.bind_some]; exact congrArg some (dec_why _)
end Go.Proofs.YtnjcpoojgmpmeaaGreatDoor.Plug
namespace Go.Proofs.YtnjcpoojgmpmeaaGreatDoor.PX
open RowKit YtnjcpoojgmpmeaaGreatDoorW.PrintWords YtnjcpoojgmpmeaaGreatDoorW.PrintLast YtnjcpoojgmpmeaaGreatDoorW.PrintMore YtnjcpoojgmpmeaaGreatDoor
attribute [local go_sem] max2_int min2_int max_two min_two max_three min_three max_four min_four   -- for this text's walks alone
set_option linter.unusedVariables false
set_option linter.unusedSimpArgs false
def grommetref12_scalar.f (a0 : Int) : Option (Bool) := if a0 ≥ 1 then (some (decide (a0 ≤ 4))) else (some false)
theorem qeb0_ {P : Prop} (h_ : P := by first | rfl | (simp; done) | (simp [*]; done) | (simp; generalize ByteArray.toList _ = l_; cases l_ <;> rfl)) : P := h_
set_option maxHeartbeats 8000000 in
set_option maxRecDepth 100000 in
theorem grommetref12_scalar.calls (a0 : Int) (r : Bool) (w : World) (hG : Glob.G w) (h : grommetref12_scalar.f a0 = some r) :
  Calls Tryz.prog 86 #[.int .i64 a0] w fun e w' => e = .returned (.bool r) ∧ Drawn0 w w' := by
 have H : (if a0 ≥ 1 then (some (decide (a0 ≤ 4))) else (some false)) = some r := h
 clear h
 by_cases c2 : a0 ≥ 1
 ·
  rw [if_pos c2] at H
  have c2b0 : decide (1 ≤ a0) = true := decide_eq_true c2
  clear c2
  obtain rfl := Option.some.inj H
  go_enter Tryz.func86, Tryz.ntmps86
  go_wp2
  go_ret
  exact ⟨qeb0_, by repeat (first | exact Drawn0.refl _ | apply Drawn0.step)⟩
 rw [if_neg c2] at H
 have c2b0 : decide (1 ≤ a0) = false := decide_eq_false c2
 clear c2
 obtain rfl := Option.some.inj H
 go_enter Tryz.func86, Tryz.ntmps86
 go_wp2
 go_ret
 exact ⟨qeb0_, by repeat (first | exact Drawn0.refl _ | apply Drawn0.step)⟩
end Go.Proofs.YtnjcpoojgmpmeaaGreatDoor.PX
namespace Go.Proofs.YtnjcpoojgmpmeaaGreatDoor.Plug
open RowKit YtnjcpoojgmpmeaaGreatDoor YtnjcpoojgmpmeaaGreatDoor.PX YtnjcpoojgmpmeaaGreatDoor.Utf YtnjcpoojgmpmeaaGreatDoor.Mapk YtnjcpoojgmpmeaaGreatDoorW.PrintWords YtnjcpoojgmpmeaaGreatDoorW.PrintLast YtnjcpoojgmpmeaaGreatDoorW.PrintMore
theorem rscal_of (k : Int) : grommetref12_scalar.f k = some (scB k) := by
 unfold grommetref12_scalar.f scB
 by_cases h : (1 : Int) ≤ k
 · rw [if_pos h, decide_eq_true h, Bool.true_and]
 rw [if_neg h, decide_eq_false h, Bool.false_and]
def grommetref12_node.f (l : List S45) (_root kd : Int) (tt : ByteArray) (kids : List Int) : Option Bool :=
  if tt.size ≤ 1099511627775 ∧ kids.length ≤ 1099511627776 then some (isN l ⟨kd, tt, kids⟩) else none
theorem evens_at : ∀ (l : List Int) (m : Nat), 2 * m + 1 < l.length → (evens l)[m]? = l[2 * m]?
 | [], m, h => by simp at h
 | [_], m, h => by simp at h
 | a :: b :: r, 0, _ => by simp [evens]
 | a :: b :: r, m + 1, h => by
  rw [evens, List.getElem?_cons_succ, evens_at r m (by simp only [List.length_cons] at h; omega), show 2 * (m + 1) = 2 * m + 1 + 1 by omega, List.getElem?_cons_succ, List.getElem?_cons_succ]
theorem evens_half : ∀ (l : List Int), l.length % 2 = 0 → 2 * (evens l).length = l.length
 | [], _ => rfl
 | [_], h => by simp at h
 | a :: b :: r, h => by
  have := evens_half r (by simp only [List.length_cons] at h; omega)
  simp only [evens, List.length_cons]; omega
theorem evens_get (l : List Int) (he : l.length % 2 = 0) (i m : Nat) (hi : i = 2 * m) (h : i < l.length) (hm : m < (evens l).length) : (evens l)[m] = l[i] := by
 have := evens_at l m (by omega)
 subst hi
 rw [List.getElem?_eq_getElem hm, List.getElem?_eq_getElem h] at this
 exact Option.some.inj this
def metUp (l : List S45) (ev : List Int) (m : Nat) : List (Int × ByteArray) := (ev.take m).reverse.map (keyIs l)
def metHas (l : List S45) (ev : List Int) (m : Nat) (x : Int × ByteArray) : Bool := (ev.take m).any (fun y => decide (keyIs l y = x))
theorem met_any (l : List S45) (ev : List Int) (m : Nat) (x : Int × ByteArray) : (metUp l ev m).any (fun y => decide (y = x)) = metHas l ev m x := by
 unfold metUp metHas
 rw [List.any_map, List.any_reverse]; rfl
theorem metHas_succ (l : List S45) (ev : List Int) (m : Nat) (x : Int × ByteArray) (h : m < ev.length) : metHas l ev (m + 1) x = (metHas l ev m x || decide (keyIs l ev[m] = x)) := by
 unfold metHas
 rw [List.take_succ_eq_append_getElem h, List.any_append]; simp
theorem metUp_succ (l : List S45) (ev : List Int) (m : Nat) (h : m < ev.length) : metUp l ev (m + 1) = keyIs l ev[m] :: metUp l ev m := by
 unfold metUp
 rw [List.take_succ_eq_append_getElem h, List.reverse_append]; rfl
theorem metHas_mono (l : List S45) (ev : List Int) (x : Int × ByteArray) (q : Nat) : ∀ m, q ≤ m → m ≤ ev.length → metHas l ev q x = true → metHas l ev m x = true
  | 0, h, _, e => by have : q = 0 := by omega
                     rw [← this]; exact e
  | m + 1, h, hm, e => by
    by_cases h2 : q = m + 1
    · rw [← h2]; exact e
    · rw [metHas_succ l ev m x (by omega), metHas_mono l ev x q m (by omega) (by omega) e]; rfl
theorem metB_on (l : List S45) (ev : List Int) (m : Nat) (h : m < ev.length) : metB l (ev.drop m) (metUp l ev m) = if scB (rd_T45 l ev[m]).f0 = true then (if metHas l ev m (keyIs l ev[m]) = true then false else metB l (ev.drop (m + 1)) (metUp l ev (m + 1))) else false := by
  rw [List.drop_eq_getElem_cons h, metB, met_any, metUp_succ l ev m h]
set_option maxHeartbeats 8000000 in
set_option maxRecDepth 100000 in
theorem node_on (A0 : Option Addr) (c0 : Nat) (l : List S45) (root kd : Int) (tt : ByteArray) (kids : List Int) (A2 : Option Addr) (c2 : Nat) (R : Bool) (w : World)
    (HR : Hid (Kd.C k45 w A0 l.length l)) (H2 : Hid (Kd.C (Kd.int .i64) w A2 kids.length kids)) (hG : Glob.G w) (K : Nat)
    (HT : Hid (grommetref12_text.f K kd tt = some true)) (hkl : kids.length ≤ 1099511627776)
    (q1 : decide (kd < 1) = false) (q2 : decide (6 < kd) = false) (hcase : (scB kd = true ∧ kids.length = 0) ∨ (scB kd = false ∧ (kd == 6) = true ∧ kids.length % 2 = 0) ∨ (scB kd = false ∧ (kd == 6) = false))
    (hR : (if kids.any (farB l) = true then false else metB l (keysB kd kids) []) = R) :
    Calls Tryz.prog 68 #[.agg #[.slice A0 l.length c0, .int .i64 root], .agg #[.int .i64 kd, .string tt, .slice A2 kids.length c2]] w fun e w' => e = .returned (.bool R) ∧ Below w.heap.size w w' := by
  rcases hcase with ⟨hsc, kl⟩ | ⟨hsc, q4, ko⟩ | ⟨hsc, q4⟩
  case' inl =>
    have q4 : (kd == 6) = false := by unfold scB at hsc; rw [Bool.and_eq_true, decide_eq_true_eq, decide_eq_true_eq] at hsc; exact beq_eq_false_iff_ne.2 (by omega)
    have q5 : decide ((0 : Int) < (kids.length : Int)) = false := decide_eq_false (by omega)
    have q6 : decide (0 < kids.length) = false := decide_eq_false (by omega)
    clear kl
  case' inr.inl => have q7 : (kids.length : Int).tmod 2 = 0 := by { rw [Int.tmod_eq_emod_of_nonneg (by omega)]; omega }
  all_goals
    have HS := Lib.hid (rscal_of kd)
    rw [hsc] at HS
    clear hsc
    have HV := Lib.hid hR
    clear hR
    go_enter Tryz.func68, Tryz.ntmps68
    go_wp2_with (first | ((with_reducible refine gate_dst (N := 2) rfl ?_); refine box_event ?hg (N := 2) ?hd (cs := #[.slice A0 l.length c0, .int .i64 root]) (t := 24) ?hr ?_; (case hd => rfl); (case hg => rfl); (case hr => first | (go_simp; done) | (go_simp; rfl)); intro gb hg w1 hgb hb1; have HG1 := Lib.hid hgb; have HB1 := Lib.hid hb1; have HE1 := Lib.hid hg; clear hgb hb1 hg) | ((with_reducible refine gate_dst (N := 3) rfl ?_); refine box_event ?hg (N := 3) ?hd (cs := #[.int .i64 kd, .string tt, .slice A2 kids.length c2]) (t := 45) ?hr ?_; (case hd => rfl); (case hg => rfl); (case hr => first | (go_simp; done) | (go_simp; rfl)); intro nb hn w2 hnb hb2; have HX := Lib.hid (Bx.mk ((hb2.block gb (blk_lt HG1.out)).trans HG1.out) hnb); have HB2 := Lib.hid (HB1.out.trans (hb2.mono HB1.out.size)); have HE2 := Lib.hid hn; clear hnb hb2 hn HG1; obtain ⟨x0, x1, x2, x3, x4⟩ := HX.out.cells) | (go_at_call 85; refine (grommetref12_text.calls _ _ _ _ _ (hG.below HB2.out) HT.out).mono ?_; rintro e w3 ⟨rfl, hb3⟩; have HX3 := Lib.hid (HX.out.below hb3); have HB3 := Lib.hid (HB2.out.trans (hb3.mono HB2.out.size)); clear hb3 HX HB2 x0 x1 x2 x3 x4; obtain ⟨x0, x1, x2, x3, x4⟩ := HX3.out.cells) | (go_at_call 86; refine (grommetref12_scalar.calls _ _ _ (hG.below HB3.out) HS.out).mono ?_; rintro e w4 ⟨rfl, hd4⟩; have HX4 := Lib.hid (HX3.out.below hd4.below); have HB4 := Lib.hid (HB3.out.trans (hd4.below.mono HB3.out.size)); clear hd4 HX3 HB3 x0 x1 x2 x3 x4; obtain ⟨x0, x1, x2, x3, x4⟩ := HX4.out.cells))
    clear x0 x1 x2 x3 x4
    go_loopw [5] (fun v wr => ∃ i : Nat, v = .int .i64 i ∧ i ≤ kids.length ∧ Hid (kids.any (farB l) = (kids.drop i).any (farB l)) ∧ Hid (Below w.heap.size w wr) ∧ Hid (Bx gb nb A0 l.length c0 root kd tt A2 kids.length c2 wr)) (fun v _ => kids.length - (intOf v).toNat)
    case atStart => exact ⟨0, rfl, by omega, Lib.hid rfl, HB4, HX4⟩
    case round =>
      clear HB4 HX4
      obtain ⟨i, rfl, hi, hst, HBR, HXR⟩ := hrel
      obtain ⟨x0, x1, x2, x3, x4⟩ := HXR.out.cells
      by_cases hlt : i < kids.length
      · have hc : decide ((i : Int) < (kids.length : Int)) = true := decide_eq_true (by omega)
        obtain ⟨cd, eA, hx⟩ := Kd.at_int (Kd.C_below H2.out HBR.out) (i : Int) (by omega) (by omega)
        subst eA
        rw [rd_at kids i hlt, Int.toNat_natCast] at hx
        have hst2 := hst.out
        rw [List.drop_eq_getElem_cons hlt, List.any_cons] at hst2
        have p1 : (0 ≤ (i : Int)) = True := eq_true (by omega)
        have p2 : ((i : Int) < (kids.length : Int)) = True := eq_true (by omega)
        have HL := Lib.hid hlt
        clear hst
        generalize kids[i] = k at *
        by_cases n1 : k < 0
        · have HF : Hid (R = false) := Lib.hid (by have h := HV.out; rw [hst2] at h; simp [farB, n1] at h; exact h)
          have n2 : decide (k < 0) = true := decide_eq_true n1
          clear hst2
          go_wp2
          go_quiet (fail)
          go_wp2
          go_ret
          exact ⟨by rw [HF.out]; first | done | rfl, pw_below_drewN HBR.out _⟩
        · have n2 : decide (k < 0) = false := decide_eq_false n1
          by_cases n3 : (l.length : Int) ≤ k
          · have HF : Hid (R = false) := Lib.hid (by have h := HV.out; rw [hst2] at h; simp [farB, n3] at h; exact h)
            have n4 : decide ((l.length : Int) ≤ k) = true := decide_eq_true n3
            clear hst2
            go_wp2
            go_quiet (fail)
            go_wp2
            go_ret
            exact ⟨by rw [HF.out]; first | done | rfl, pw_below_drewN HBR.out _⟩
          · have n4 : decide ((l.length : Int) ≤ k) = false := decide_eq_false n3
            have HST := Lib.hid (show kids.any (farB l) = (kids.drop (i + 1)).any (farB l) by rw [hst2]; unfold farB; rw [n2, show decide (k ≥ (l.length : Int)) = false from n4]; rfl)
            clear hst2
            go_wp2
            go_quiet (fail)
            go_wp2
            go_roundw
            case rel => have := HL.out; exact ⟨i + 1, by go_num, HL.out, HST, Lib.hid (pw_below_drewN HBR.out _), Lib.hid (HXR.out.below (pw_below_drewN (Below.refl _ _) _))⟩
            case measure => have := HL.out; simp [intOf]; omega
      · have hc : decide ((i : Int) < (kids.length : Int)) = false := decide_eq_false (by omega)
        have hst2 := hst.out
        rw [List.drop_of_length_le (by omega), List.any_nil] at hst2
        have HMB := Lib.hid (show metB l (keysB kd kids) [] = R by have h := HV.out; rw [hst2, if_neg Bool.false_ne_true] at h; exact h)
        have HIN := Lib.hid (show ∀ k ∈ kids, 0 ≤ k ∧ k < (l.length : Int) from fun k hk => by
          have h := List.any_eq_false.1 hst2 k hk
          simp [farB] at h
          exact h)
        clear hst hst2
        go_wp2
        clear x0 x1 x2 x3 x4 hc
        by_cases h6 : kd = 6
        · try exact absurd (beq_iff_eq.2 h6) (by rw [q4]; exact Bool.false_ne_true)
          all_goals
            have q8 : (kd == 6) = true := beq_iff_eq.2 h6
            have hev : kids.length % 2 = 0 := ko
            have HEH := Lib.hid (And.intro hev (evens_half kids hev))
            have HM0 := Lib.hid (show metB l ((evens kids).drop 0) (metUp l (evens kids) 0) = R by rw [← HMB.out]; unfold keysB; rw [if_pos h6]; rfl)
            clear h6 hev
            go_loopw [6] (fun v wr => ∃ i m : Nat, v = .int .i64 i ∧ i ≤ kids.length ∧ Hid (i = 2 * m) ∧ Hid (metB l ((evens kids).drop m) (metUp l (evens kids) m) = R) ∧ Hid (Below w.heap.size w wr) ∧ Hid (Bx gb nb A0 l.length c0 root kd tt A2 kids.length c2 wr)) (fun v _ => kids.length - (intOf v).toNat)
            case atStart => exact ⟨0, 0, rfl, by omega, Lib.hid rfl, HM0, HBR, HXR⟩
            case round =>
              clear HBR HXR hlt hi
              obtain ⟨i, m, rfl, hi, him, hst, HBR, HXR⟩ := hrel
              obtain ⟨x0, x1, x2, x3, x4⟩ := HXR.out.cells
              by_cases hlt : i < kids.length
              · have hc : decide ((i : Int) < (kids.length : Int)) = true := decide_eq_true (by omega)
                obtain ⟨cd, eA, hx⟩ := Kd.at_int (Kd.C_below H2.out HBR.out) (i : Int) (by omega) (by omega)
                subst eA
                rw [rd_at kids i hlt, Int.toNat_natCast] at hx
                have hm : m < (evens kids).length := by have := HEH.out; have := him.out; omega
                have HST := Lib.hid (metB_on l (evens kids) m hm)
                rw [hst.out, evens_get kids HEH.out.1 i m him.out hlt hm] at HST
                obtain ⟨j0, j1⟩ := HIN.out kids[i] (List.getElem_mem hlt)
                have HL := Lib.hid (And.intro hlt hm)
                have HKI := Lib.hid (show kids[i] = kids[i] from rfl)
                generalize kids[i] = k at *
                obtain ⟨bd, A3, c3, eB, y0, y1, y2, _, _⟩ := at_T45 (Kd.C_below HR.out HBR.out) k j0 j1
                subst eB
                have hki : keyIs l k = ((rd_T45 l k).f0, (rd_T45 l k).f1) := rfl
                rw [hki] at HST
                clear hki hst
                generalize (rd_T45 l k).f0 = a at *
                generalize (rd_T45 l k).f1 = s at *
                generalize (rd_T45 l k).f2 = f at *
                have p1 : (0 ≤ (i : Int)) = True := eq_true (by omega)
                have p2 : ((i : Int) < (kids.length : Int)) = True := eq_true (by omega)
                have p3 : (0 ≤ k) = True := eq_true j0
                have p4 : (k < (l.length : Int)) = True := eq_true j1
                go_wp2_with (fail)
                have hal : Below wr.heap.size wr (wr.alloc (.cells #[.int .i64 0, .string ⟨#[]⟩, .slice none 0 0] 45 (0, 0))) := below_alloc (Below.refl _ _) _
                obtain ⟨u0, u1, u2, u3, u4⟩ := (HXR.out.below hal).cells
                have v0 := (hal.cell (World.block_lt_of_cell? wr _ y0)).trans y0
                have v1 := (hal.cell (World.block_lt_of_cell? wr _ y1)).trans y1
                have v2 := (hal.cell (World.block_lt_of_cell? wr _ y2)).trans y2
                have v3 := (hal.cell (World.block_lt_of_cell? wr _ hx)).trans hx
                clear hal
                go_region
                have hb8 : Below wr.heap.size wr (World.drew (wr.alloc (.cells #[.int .i64 a, .string s, .slice A3 f.length c3] 45 (0, 0)))) := below_drew1 (below_alloc (Below.refl _ _) _)
                have hk8 : (World.drew (wr.alloc (.cells #[.int .i64 a, .string s, .slice A3 f.length c3] 45 (0, 0)))).heap[wr.heap.size]? = some (.cells #[.int .i64 a, .string s, .slice A3 f.length c3] 45 (0, 0)) := blk_new wr _
                generalize World.drew _ = w8 at hb8 hk8 ⊢
                generalize wr.heap.size = kb at hk8 ⊢
                have HB8 := Lib.hid (HBR.out.trans (hb8.mono HBR.out.size))
                have HX8 := Lib.hid (HXR.out.below hb8)
                have HK8 := Lib.hid hk8
                clear hb8 hk8 HBR HXR x0 x1 x2 x3 x4 y0 y1 y2 u0 u1 u2 u3 u4 v0 v1 v2 v3 hx
                obtain ⟨x0, x1, x2, x3, x4⟩ := HX8.out.cells
                have z0 := (blk_cell HK8.out 0).trans rfl
                have z1 := (blk_cell HK8.out 1).trans rfl
                have HSC := Lib.hid (rscal_of a)
                by_cases hs : scB a = true
                · rw [hs] at HSC
                  have HST2 := Lib.hid (show R = (if metHas l (evens kids) m (a, s) = true then false else metB l ((evens kids).drop (m + 1)) (metUp l (evens kids) (m + 1))) by have h := HST.out; rw [if_pos hs] at h; exact h)
                  clear HST hs
                  go_wp2_with (go_at_call 86; refine (grommetref12_scalar.calls _ _ _ (hG.below HB8.out) HSC.out).mono ?_; rintro e w9 ⟨rfl, hd9⟩; have HX9 := Lib.hid (HX8.out.below hd9.below); have HB9 := Lib.hid (HB8.out.trans (hd9.below.mono HB8.out.size)); have HK9 := Lib.hid ((hd9.below.block _ (blk_lt HK8.out)).trans HK8.out); clear hd9 HX8 HB8 HK8 x0 x1 x2 x3 x4 z0 z1; obtain ⟨x0, x1, x2, x3, x4⟩ := HX9.out.cells; have z0 := (blk_cell HK9.out 0).trans rfl; have z1 := (blk_cell HK9.out 1).trans rfl)
                  clear x0 x1 x2 x3 x4 z0 z1 hc
                  go_loopw [8] (fun v wr => ∃ j q : Nat, v = .int .i64 j ∧ j ≤ i + 1 ∧ Hid (j = 2 * q) ∧ Hid (metHas l (evens kids) q (a, s) = false) ∧ Hid (Below w.heap.size w wr) ∧ Hid (Bx gb nb (some bd) l.length c0 root kd tt (some cd) kids.length c2 wr) ∧ Hid (wr.heap[kb]? = some (.cells #[.int .i64 a, .string s, .slice A3 f.length c3] 45 (0, 0)))) (fun v _ => i + 1 - (intOf v).toNat)
                  case atStart => exact ⟨0, 0, rfl, by omega, Lib.hid rfl, Lib.hid rfl, HB9, HX9, HK9⟩
                  case round =>
                    clear HB9 HX9 HK9
                    obtain ⟨j, q, rfl, hj, hjq, hmt, HBR, HXR, HKR⟩ := hrel
                    obtain ⟨x0, x1, x2, x3, x4⟩ := HXR.out.cells
                    by_cases hlt2 : j < i
                    · have hc : decide ((j : Int) < (i : Int)) = true := decide_eq_true (by omega)
                      have hjk : j < kids.length := by have := HL.out; omega
                      obtain ⟨cd2, eA, hx⟩ := Kd.at_int (Kd.C_below H2.out HBR.out) (j : Int) (by omega) (by omega)
                      cases eA
                      rw [rd_at kids j hjk, Int.toNat_natCast] at hx
                      have hq : q < (evens kids).length := by have := HL.out; have := him.out; have := hjq.out; omega
                      have HSU := Lib.hid (metHas_succ l (evens kids) q (a, s) hq)
                      rw [hmt.out, Bool.false_or, evens_get kids HEH.out.1 j q hjq.out hjk hq] at HSU
                      obtain ⟨j2, j3⟩ := HIN.out kids[j] (List.getElem_mem hjk)
                      have HL2 := Lib.hid (And.intro hlt2 (show q + 1 ≤ m by have := him.out; have := hjq.out; omega))
                      generalize kids[j] = k2 at *
                      obtain ⟨bd2, A4, c4, eB, y0, y1, y2, _, _⟩ := at_T45 (Kd.C_below HR.out HBR.out) k2 j2 j3
                      cases eB
                      have hki : keyIs l k2 = ((rd_T45 l k2).f0, (rd_T45 l k2).f1) := rfl
                      rw [hki] at HSU
                      clear hki hmt
                      generalize (rd_T45 l k2).f0 = a2 at *
                      generalize (rd_T45 l k2).f1 = s2 at *
                      generalize (rd_T45 l k2).f2 = f2 at *
                      have p5 : (0 ≤ (j : Int)) = True := eq_true (by omega)
                      have p6 : ((j : Int) < (kids.length : Int)) = True := eq_true (by omega)
                      have p7 : (0 ≤ k2) = True := eq_true j2
                      have p8 : (k2 < (l.length : Int)) = True := eq_true j3
                      go_wp2_with (fail)
                      have hal : Below wr.heap.size wr (wr.alloc (.cells #[.int .i64 0, .string ⟨#[]⟩, .slice none 0 0] 45 (0, 0))) := below_alloc (Below.refl _ _) _
                      obtain ⟨u0, u1, u2, u3, u4⟩ := (HXR.out.below hal).cells
                      have v0 := (hal.cell (World.block_lt_of_cell? wr _ y0)).trans y0
                      have v1 := (hal.cell (World.block_lt_of_cell? wr _ y1)).trans y1
                      have v2 := (hal.cell (World.block_lt_of_cell? wr _ y2)).trans y2
                      have v3 := (hal.cell (World.block_lt_of_cell? wr _ hx)).trans hx
                      clear hal
                      go_region
                      have hb8 : Below wr.heap.size wr (World.drew (wr.alloc (.cells #[.int .i64 a2, .string s2, .slice A4 f2.length c4] 45 (0, 0)))) := below_drew1 (below_alloc (Below.refl _ _) _)
                      have hk8 : (World.drew (wr.alloc (.cells #[.int .i64 a2, .string s2, .slice A4 f2.length c4] 45 (0, 0)))).heap[wr.heap.size]? = some (.cells #[.int .i64 a2, .string s2, .slice A4 f2.length c4] 45 (0, 0)) := blk_new wr _
                      generalize World.drew _ = w8 at hb8 hk8 ⊢
                      have HB8 := Lib.hid (HBR.out.trans (hb8.mono HBR.out.size))
                      have HX8 := Lib.hid (HXR.out.below hb8)
                      have HK8 := Lib.hid ((hb8.block kb (blk_lt HKR.out)).trans HKR.out)
                      generalize wr.heap.size = ob at hk8 ⊢
                      have HO8 := Lib.hid hk8
                      clear hb8 hk8 HBR HXR HKR x0 x1 x2 x3 x4 y0 y1 y2 u0 u1 u2 u3 u4 v0 v1 v2 v3 hx
                      have z0 := (blk_cell HK8.out 0).trans rfl
                      have z1 := (blk_cell HK8.out 1).trans rfl
                      have z2 := (blk_cell HO8.out 0).trans rfl
                      have z3 := (blk_cell HO8.out 1).trans rfl
                      by_cases e1 : a2 = a
                      · have n1 : (a2 == a) = true := beq_iff_eq.2 e1
                        by_cases e2 : s2 = s
                        · have n2 : (s2.toList == s.toList) = true := beq_iff_eq.2 (by rw [e2])
                          have HF : Hid (R = false) := Lib.hid (by
                            have h := HSU.out
                            rw [e1, e2, decide_eq_true rfl] at h
                            have h2 := metHas_mono l (evens kids) (a, s) (q + 1) m HL2.out.2 (by have := HL.out; omega) h
                            rw [HST2.out, if_pos h2])
                          clear e1 e2 HSU
                          go_wp2
                          go_ret
                          exact ⟨by rw [HF.out]; first | done | rfl, HB8.out⟩
                        · have n2 : (s2.toList == s.toList) = false := beq_eq_false_iff_ne.2 (fun h => e2 (ByteArray.ext (by have h3 := congrArg List.toArray h; rw [Lib.toList_data, Lib.toList_data] at h3; simpa using h3)))
                          have HMT : Hid (metHas l (evens kids) (q + 1) (a, s) = false) := Lib.hid (by rw [HSU.out]; exact decide_eq_false (fun h => e2 (Prod.mk.inj h).2))
                          clear e1 e2 HSU
                          go_wp2
                          go_roundw
                          case rel => have := HL2.out; have := hjq.out; exact ⟨j + 2, q + 1, by go_num, by omega, Lib.hid (by omega), HMT, HB8, HX8, HK8⟩
                          case measure => have := HL2.out; simp [intOf]; omega
                      · have n1 : (a2 == a) = false := beq_eq_false_iff_ne.2 e1
                        have HMT : Hid (metHas l (evens kids) (q + 1) (a, s) = false) := Lib.hid (by rw [HSU.out]; exact decide_eq_false (fun h => e1 (Prod.mk.inj h).1))
                        clear e1 HSU
                        go_wp2
                        go_roundw
                        case rel => have := HL2.out; have := hjq.out; exact ⟨j + 2, q + 1, by go_num, by omega, Lib.hid (by omega), HMT, HB8, HX8, HK8⟩
                        case measure => have := HL2.out; simp [intOf]; omega
                    · have hc : decide ((j : Int) < (i : Int)) = false := decide_eq_false (by omega)
                      have HMN : Hid (metB l ((evens kids).drop (m + 1)) (metUp l (evens kids) (m + 1)) = R) := Lib.hid (by
                        have h := hmt.out
                        have hqm : metHas l (evens kids) m (a, s) = false := by
                          cases hv : metHas l (evens kids) m (a, s) with
                          | false => rfl
                          | true => rw [metHas_mono l (evens kids) (a, s) m q (by have := him.out; have := hjq.out; omega) (by have := HL.out; have := him.out; have := hjq.out; have := HEH.out; omega) hv] at h; cases h
                        rw [HST2.out, if_neg (by rw [hqm]; exact Bool.false_ne_true)])
                      go_wp2
                      go_roundw
                      case rel => have := HL.out; have := him.out; exact ⟨i + 2, m + 1, by go_num, by have := HEH.out; omega, Lib.hid (by omega), HMN, HBR, HXR⟩
                      case measure => have := HL.out; simp [intOf]; omega
                · have hs' : scB a = false := Bool.eq_false_iff.2 hs
                  have HF : Hid (R = false) := Lib.hid (by have h := HST.out; rw [if_neg hs] at h; exact h)
                  rw [hs'] at HSC
                  clear hs hs' HST
                  go_wp2_with (go_at_call 86; refine (grommetref12_scalar.calls _ _ _ (hG.below HB8.out) HSC.out).mono ?_; rintro e w9 ⟨rfl, hd9⟩; have HB9 := Lib.hid (HB8.out.trans (hd9.below.mono HB8.out.size)))
                  go_ret
                  exact ⟨by rw [HF.out]; first | done | rfl, HB9.out⟩
              · have hc : decide ((i : Int) < (kids.length : Int)) = false := decide_eq_false (by omega)
                have HF : Hid (R = true) := Lib.hid (by
                  have h := hst.out
                  rw [List.drop_of_length_le (by have := HEH.out; have := him.out; omega), metB] at h
                  exact h.symm)
                clear hst
                go_wp2
                go_ret
                exact ⟨by rw [HF.out]; first | done | rfl, HBR.out⟩
        · try exact absurd (beq_iff_eq.1 q4) h6
          all_goals
            have q8 : (kd == 6) = false := beq_eq_false_iff_ne.2 h6
            have HF : Hid (R = true) := Lib.hid (by rw [← HMB.out]; unfold keysB; rw [if_neg h6]; rfl)
            clear h6
            go_loopw [6] (fun v wr => v = .int .i64 0 ∧ Hid (Below w.heap.size w wr) ∧ Hid (Bx gb nb A0 l.length c0 root kd tt A2 kids.length c2 wr)) (fun _ _ => 0)
            case atStart => exact ⟨rfl, HBR, HXR⟩
            case round =>
              clear HBR HXR
              obtain ⟨rfl, HBR, HXR⟩ := hrel
              obtain ⟨x0, x1, x2, x3, x4⟩ := HXR.out.cells
              by_cases hn : 0 < kids.length
              · first
                  | exact absurd hn (by have := of_decide_eq_false q5; omega)
                  | (have hc : decide ((0 : Int) < (kids.length : Int)) = true := decide_eq_true (by omega)
                     go_wp2
                     go_ret
                     exact ⟨by rw [HF.out]; first | done | rfl, HBR.out⟩)
              · have hc : decide ((0 : Int) < (kids.length : Int)) = false := decide_eq_false (by omega)
                go_wp2
                go_ret
                exact ⟨by rw [HF.out]; first | done | rfl, HBR.out⟩
set_option maxHeartbeats 8000000 in
set_option maxRecDepth 100000 in
theorem grommetref12_node.calls (A0 : Option Addr) (c0 : Nat) (l : List S45) (root kd : Int) (tt : ByteArray) (A2 : Option Addr) (c2 : Nat) (kids : List Int) (r : Bool) (w : World)
  (hr0 : Kd.C k45 w A0 l.length l) (_hc0 : l.length ≤ c0) (hr1 : Kd.C (Kd.int .i64) w A2 kids.length kids) (_hc1 : kids.length ≤ c2) (hG : Glob.G w) (h : grommetref12_node.f l root kd tt kids = some r) :
  Calls Tryz.prog 68 #[.agg #[.slice A0 l.length c0, .int .i64 root], .agg #[.int .i64 kd, .string tt, .slice A2 kids.length c2]] w fun e w' => e = .returned (.bool r) ∧ Below w.heap.size w w' := by
 unfold grommetref12_node.f at h
 by_cases hz : tt.size ≤ 1099511627775 ∧ kids.length ≤ 1099511627776
 rotate_left
 · rw [if_neg hz] at h; cases h
 rw [if_pos hz] at h
 have hR := Option.some.inj h
 obtain ⟨hz1, hz2⟩ := hz
 have HR := Lib.hid hr0
 have H2 := Lib.hid hr1
 have HRR := Lib.hid hR
 obtain ⟨tx, htx⟩ : ∃ b, textB kd tt = b := ⟨_, rfl⟩
 have HT := Lib.hid (show grommetref12_text.f (tt.size + 130) kd tt = some tx by rw [← htx]; exact refText_of tt hz1 kd _ (Nat.le_refl _))
 have HTX := Lib.hid htx
 clear h hr0 hr1 hR _hc0 _hc1 htx
 by_cases k1 : kd < 1
 ·
  have HF : Hid (r = false) := Lib.hid (by rw [← HRR.out]; simp [isN, nodeB, k1])
  have q1 : decide (kd < 1) = true := decide_eq_true k1
  go_enter Tryz.func68, Tryz.ntmps68
  go_wp2_with (first | ((with_reducible refine gate_dst (N := 2) rfl ?_); refine box_event ?hg (N := 2) ?hd (cs := #[.slice A0 l.length c0, .int .i64 root]) (t := 24) ?hr ?_; (case hd => rfl); (case hg => rfl); (case hr => first | (go_simp; done) | (go_simp; rfl)); intro gb hg w1 hgb hb1; have HG1 := Lib.hid hgb; have HB1 := Lib.hid hb1; have HE1 := Lib.hid hg; clear hgb hb1 hg) | ((with_reducible refine gate_dst (N := 3) rfl ?_); refine box_event ?hg (N := 3) ?hd (cs := #[.int .i64 kd, .string tt, .slice A2 kids.length c2]) (t := 45) ?hr ?_; (case hd => rfl); (case hg => rfl); (case hr => first | (go_simp; done) | (go_simp; rfl)); intro nb hn w2 hnb hb2; have HX := Lib.hid (Bx.mk ((hb2.block gb (blk_lt HG1.out)).trans HG1.out) hnb); have HB2 := Lib.hid (HB1.out.trans (hb2.mono HB1.out.size)); have HE2 := Lib.hid hn; clear hnb hb2 hn HG1; obtain ⟨x0, x1, x2, x3, x4⟩ := HX.out.cells))
  go_ret
  exact ⟨by rw [HF.out]; first | done | rfl, HB2.out⟩
 have q1 : decide (kd < 1) = false := decide_eq_false k1
 by_cases k6 : 6 < kd
 ·
  have HF : Hid (r = false) := Lib.hid (by rw [← HRR.out]; simp [isN, nodeB, k1, k6])
  have q2 : decide (6 < kd) = true := decide_eq_true k6
  go_enter Tryz.func68, Tryz.ntmps68
  go_wp2_with (first | ((with_reducible refine gate_dst (N := 2) rfl ?_); refine box_event ?hg (N := 2) ?hd (cs := #[.slice A0 l.length c0, .int .i64 root]) (t := 24) ?hr ?_; (case hd => rfl); (case hg => rfl); (case hr => first | (go_simp; done) | (go_simp; rfl)); intro gb hg w1 hgb hb1; have HG1 := Lib.hid hgb; have HB1 := Lib.hid hb1; have HE1 := Lib.hid hg; clear hgb hb1 hg) | ((with_reducible refine gate_dst (N := 3) rfl ?_); refine box_event ?hg (N := 3) ?hd (cs := #[.int .i64 kd, .string tt, .slice A2 kids.length c2]) (t := 45) ?hr ?_; (case hd => rfl); (case hg => rfl); (case hr => first | (go_simp; done) | (go_simp; rfl)); intro nb hn w2 hnb hb2; have HX := Lib.hid (Bx.mk ((hb2.block gb (blk_lt HG1.out)).trans HG1.out) hnb); have HB2 := Lib.hid (HB1.out.trans (hb2.mono HB1.out.size)); have HE2 := Lib.hid hn; clear hnb hb2 hn HG1; obtain ⟨x0, x1, x2, x3, x4⟩ := HX.out.cells))
  go_ret
  exact ⟨by rw [HF.out]; first | done | rfl, HB2.out⟩
 have q2 : decide (6 < kd) = false := decide_eq_false k6
 cases tx with
 | false =>
  have HF : Hid (r = false) := Lib.hid (by rw [← HRR.out]; simp [isN, nodeB, k1, k6, HTX.out])
  go_enter Tryz.func68, Tryz.ntmps68
  go_wp2_with (first | ((with_reducible refine gate_dst (N := 2) rfl ?_); refine box_event ?hg (N := 2) ?hd (cs := #[.slice A0 l.length c0, .int .i64 root]) (t := 24) ?hr ?_; (case hd => rfl); (case hg => rfl); (case hr => first | (go_simp; done) | (go_simp; rfl)); intro gb hg w1 hgb hb1; have HG1 := Lib.hid hgb; have HB1 := Lib.hid hb1; have HE1 := Lib.hid hg; clear hgb hb1 hg) | ((with_reducible refine gate_dst (N := 3) rfl ?_); refine box_event ?hg (N := 3) ?hd (cs := #[.int .i64 kd, .string tt, .slice A2 kids.length c2]) (t := 45) ?hr ?_; (case hd => rfl); (case hg => rfl); (case hr => first | (go_simp; done) | (go_simp; rfl)); intro nb hn w2 hnb hb2; have HX := Lib.hid (Bx.mk ((hb2.block gb (blk_lt HG1.out)).trans HG1.out) hnb); have HB2 := Lib.hid (HB1.out.trans (hb2.mono HB1.out.size)); have HE2 := Lib.hid hn; clear hnb hb2 hn HG1; obtain ⟨x0, x1, x2, x3, x4⟩ := HX.out.cells) | (go_at_call 85; refine (grommetref12_text.calls _ _ _ _ _ (hG.below HB2.out) HT.out).mono ?_; rintro e w3 ⟨rfl, hb3⟩; have HX3 := Lib.hid (HX.out.below hb3); have HB3 := Lib.hid (HB2.out.trans (hb3.mono HB2.out.size)); clear hb3 HX HB2 x0 x1 x2 x3 x4; obtain ⟨x0, x1, x2, x3, x4⟩ := HX3.out.cells))
  go_ret
  exact ⟨by rw [HF.out]; first | done | rfl, HB3.out⟩
 | true =>
  have HN1 := Lib.hid (show nodeB l ⟨kd, tt, kids⟩ true (keysB kd kids) = r by rw [← HRR.out]; unfold isN; rw [show textB kd tt = true from HTX.out])
  by_cases ks4 : kd ≤ 4
  ·
   have hsc : scB kd = true := by unfold scB; rw [decide_eq_true (by omega : (1 : Int) ≤ kd), decide_eq_true ks4]; rfl
   have q4 : (kd == 6) = false := beq_eq_false_iff_ne.2 (by omega)
   by_cases kl : 0 < kids.length
   rotate_left
   ·
    refine node_on A0 c0 l root kd tt kids A2 c2 r w HR H2 hG _ HT hz2 q1 q2 (.inl ⟨hsc, by omega⟩) ?_
    exact (nodeB_on l kd tt kids _ k1 k6 (by rw [q4, decide_eq_false kl]; simp)).symm.trans HN1.out
   have HF : Hid (r = false) := Lib.hid (by rw [← HN1.out, nodeB, if_neg k1, if_neg k6, if_neg (by simp), if_pos (by simp [hsc, kl])])
   have HS := Lib.hid (rscal_of kd)
   rw [hsc] at HS
   have q5 : decide ((0 : Int) < (kids.length : Int)) = true := decide_eq_true (by omega)
   have q6 : decide (0 < kids.length) = true := decide_eq_true kl
   go_enter Tryz.func68, Tryz.ntmps68
   go_wp2_with (first | ((with_reducible refine gate_dst (N := 2) rfl ?_); refine box_event ?hg (N := 2) ?hd (cs := #[.slice A0 l.length c0, .int .i64 root]) (t := 24) ?hr ?_; (case hd => rfl); (case hg => rfl); (case hr => first | (go_simp; done) | (go_simp; rfl)); intro gb hg w1 hgb hb1; have HG1 := Lib.hid hgb; have HB1 := Lib.hid hb1; have HE1 := Lib.hid hg; clear hgb hb1 hg) | ((with_reducible refine gate_dst (N := 3) rfl ?_); refine box_event ?hg (N := 3) ?hd (cs := #[.int .i64 kd, .string tt, .slice A2 kids.length c2]) (t := 45) ?hr ?_; (case hd => rfl); (case hg => rfl); (case hr => first | (go_simp; done) | (go_simp; rfl)); intro nb hn w2 hnb hb2; have HX := Lib.hid (Bx.mk ((hb2.block gb (blk_lt HG1.out)).trans HG1.out) hnb); have HB2 := Lib.hid (HB1.out.trans (hb2.mono HB1.out.size)); have HE2 := Lib.hid hn; clear hnb hb2 hn HG1; obtain ⟨x0, x1, x2, x3, x4⟩ := HX.out.cells) | (go_at_call 85; refine (grommetref12_text.calls _ _ _ _ _ (hG.below HB2.out) HT.out).mono ?_; rintro e w3 ⟨rfl, hb3⟩; have HX3 := Lib.hid (HX.out.below hb3); have HB3 := Lib.hid (HB2.out.trans (hb3.mono HB2.out.size)); clear hb3 HX HB2 x0 x1 x2 x3 x4; obtain ⟨x0, x1, x2, x3, x4⟩ := HX3.out.cells) | (go_at_call 86; refine (grommetref12_scalar.calls _ _ _ (hG.below HB3.out) HS.out).mono ?_; rintro e w4 ⟨rfl, hd4⟩; have HX4 := Lib.hid (HX3.out.below hd4.below); have HB4 := Lib.hid (HB3.out.trans (hd4.below.mono HB3.out.size)); clear hd4 HX3 HB3 x0 x1 x2 x3 x4; obtain ⟨x0, x1, x2, x3, x4⟩ := HX4.out.cells))
   go_ret
   exact ⟨by rw [HF.out]; first | done | rfl, HB4.out⟩
  have hsc : scB kd = false := by unfold scB; rw [decide_eq_false ks4, Bool.and_false]
  by_cases k66 : kd = 6
  rotate_left
  ·
   have q4 : (kd == 6) = false := beq_eq_false_iff_ne.2 k66
   refine node_on A0 c0 l root kd tt kids A2 c2 r w HR H2 hG _ HT hz2 q1 q2 (.inr (.inr ⟨hsc, q4⟩)) ?_
   exact (nodeB_on l kd tt kids _ k1 k6 (by rw [hsc, q4]; rfl)).symm.trans HN1.out
  have q4 : (kd == 6) = true := beq_iff_eq.2 k66
  by_cases ko : kids.length % 2 = 0
  ·
   refine node_on A0 c0 l root kd tt kids A2 c2 r w HR H2 hG _ HT hz2 q1 q2 (.inr (.inl ⟨hsc, q4, ko⟩)) ?_
   exact (nodeB_on l kd tt kids _ k1 k6 (by rw [hsc, ko]; simp)).symm.trans HN1.out
  have HF : Hid (r = false) := Lib.hid (by rw [← HN1.out, nodeB, if_neg k1, if_neg k6, if_neg (by simp), if_pos (by simp [k66]; omega)])
  have HS := Lib.hid (rscal_of kd)
  have q7 : (kids.length : Int).tmod 2 = 1 := by rw [Int.tmod_eq_emod_of_nonneg (by omega)]; omega
  rw [hsc] at HS
  clear k66 ko
  go_enter Tryz.func68, Tryz.ntmps68
  go_wp2_with (first | ((with_reducible refine gate_dst (N := 2) rfl ?_); refine box_event ?hg (N := 2) ?hd (cs := #[.slice A0 l.length c0, .int .i64 root]) (t := 24) ?hr ?_; (case hd => rfl); (case hg => rfl); (case hr => first | (go_simp; done) | (go_simp; rfl)); intro gb hg w1 hgb hb1; have HG1 := Lib.hid hgb; have HB1 := Lib.hid hb1; have HE1 := Lib.hid hg; clear hgb hb1 hg) | ((with_reducible refine gate_dst (N := 3) rfl ?_); refine box_event ?hg (N := 3) ?hd (cs := #[.int .i64 kd, .string tt, .slice A2 kids.length c2]) (t := 45) ?hr ?_; (case hd => rfl); (case hg => rfl); (case hr => first | (go_simp; done) | (go_simp; rfl)); intro nb hn w2 hnb hb2; have HX := Lib.hid (Bx.mk ((hb2.block gb (blk_lt HG1.out)).trans HG1.out) hnb); have HB2 := Lib.hid (HB1.out.trans (hb2.mono HB1.out.size)); have HE2 := Lib.hid hn; clear hnb hb2 hn HG1; obtain ⟨x0, x1, x2, x3, x4⟩ := HX.out.cells) | (go_at_call 85; refine (grommetref12_text.calls _ _ _ _ _ (hG.below HB2.out) HT.out).mono ?_; rintro e w3 ⟨rfl, hb3⟩; have HX3 := Lib.hid (HX.out.below hb3); have HB3 := Lib.hid (HB2.out.trans (hb3.mono HB2.out.size)); clear hb3 HX HB2 x0 x1 x2 x3 x4; obtain ⟨x0, x1, x2, x3, x4⟩ := HX3.out.cells) | (go_at_call 86; refine (grommetref12_scalar.calls _ _ _ (hG.below HB3.out) HS.out).mono ?_; rintro e w4 ⟨rfl, hd4⟩; have HX4 := Lib.hid (HX3.out.below hd4.below); have HB4 := Lib.hid (HB3.out.trans (hd4.below.mono HB3.out.size)); clear hd4 HX3 HB3 x0 x1 x2 x3 x4; obtain ⟨x0, x1, x2, x3, x4⟩ := HX4.out.cells))
  go_ret
  exact ⟨by rw [HF.out]; first | done | rfl, HB4.out⟩
end Go.Proofs.YtnjcpoojgmpmeaaGreatDoor.Plug

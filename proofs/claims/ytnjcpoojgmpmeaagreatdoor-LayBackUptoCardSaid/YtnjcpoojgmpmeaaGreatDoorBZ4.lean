/- Texts that stand behind one another, laid into one: what this claim needs of them. -/
import Derived.Test.YtnjcpoojgmpmeaaGreatDoorBZ1
import Derived.Test.YtnjcpoojgmpmeaaGreatDoorBZ3
import Derived.Test.YtnjcpoojgmpmeaaGreatDoorBZ2
import Derived.Lib.SliceRun
import Derived.StringKeys
namespace Go.Proofs.YtnjcpoojgmpmeaaGreatDoor.PX
open RowKit YtnjcpoojgmpmeaaGreatDoorW.PrintWords YtnjcpoojgmpmeaaGreatDoorW.PrintLast YtnjcpoojgmpmeaaGreatDoorW.PrintMore YtnjcpoojgmpmeaaGreatDoor
attribute [local go_sem] max2_int min2_int max_two min_two max_three min_three max_four min_four   -- for this text's walks alone
set_option linter.unusedVariables false
set_option linter.unusedSimpArgs false
mutual
def grommetref12_Same.j0 : Nat → Bool → List (S45) → Int → List (S45) → Int → Option (Bool)
  | 0, _, _, _, _, _ => none
  | k + 1, x21, x102000, x102001, x103000, x103001 => if x21 = true then (some false) else (grommetref12_Same.l0 k 0 x102000 x102001 x103000 x103001)
def grommetref12_Same.l0 : Nat → Int → List (S45) → Int → List (S45) → Int → Option (Bool)
  | 0, _, _, _, _, _ => none
  | k + 1, x5, x102000, x102001, x103000, x103001 => if x5 < (x102000.length : Int) then (if 0 ≤ x5 then (if x5 < (x103000.length : Int) then (if ((rd_T45 x102000 x5).f0) = ((rd_T45 x103000 x5).f0) then (if ((rd_T45 x102000 x5).f1).toList = ((rd_T45 x103000 x5).f1).toList then ((grommetref01_Ints.f k ((rd_T45 x102000 x5).f2) ((rd_T45 x103000 x5).f2)).bind fun t107 => (if t107 = true then (grommetref12_Same.l0 k (wrap64 (x5 + 1)) x102000 x102001 x103000 x103001) else (some false))) else (some false)) else (some false)) else (none)) else (none)) else (some true)
end
def grommetref12_Same.f (k : Nat) (l0_0 : List (S45)) (a0_1 : Int) (l1_0 : List (S45)) (a1_1 : Int) : Option (Bool) := if a0_1 = a1_1 then (grommetref12_Same.j0 k ((l0_0.length : Int) != (l1_0.length : Int)) l0_0 a0_1 l1_0 a1_1) else (grommetref12_Same.j0 k true l0_0 a0_1 l1_0 a1_1)
def grommetref12_Same.T6 : Bool × List (List Nat × List Nat) := (true, [([], []), ([0], [0]), ([], []), ([1, 2], [1, 2]), ([3], [3]), ([], []), ([5], [5]), ([], []), ([6, 7], [6, 7]), ([8], [8]), ([], []), ([], []), ([10, 4, 0, 1, 2, 3, 4, 10, 11], [4, 10]), ([11, 9, 12, 0, 1, 2, 3, 4, 5, 6, 7, 8, 9, 10, 11, 12], [9, 11])])
def grommetref12_Same.B6 : List Nat := [0, 1, 0, 7, 15, 0, 32, 0, 224, 480, 0, 0, 3103, 8191]
theorem grommetref12_Same.tab6 : rtab .any (opsOf Tryz.f25 6) = grommetref12_Same.T6 := by kernel_rfl
theorem grommetref12_Same.bits6 : waitsOk grommetref12_Same.T6.2 grommetref12_Same.B6 = true := by kernel_rfl
theorem qzz0_ {P : Prop} (h_ : P := by have := World.block_lt_of_cell? _ _ hw104_2; first | rwa [add_block] at this | exact this) : P := h_
theorem qzz1_ {P : Prop} (h_ : P := by have := World.block_lt_of_cell? _ _ hw104_1; first | rwa [add_block] at this | exact this) : P := h_
theorem qzz2_ {P : Prop} (h_ : P := by have := World.block_lt_of_cell? _ _ hw104_0; first | rwa [add_block] at this | exact this) : P := h_
theorem qzz3_ {P : Prop} (h_ : P := by have := World.block_lt_of_cell? _ _ hw103_2; first | rwa [add_block] at this | exact this) : P := h_
theorem qzz4_ {P : Prop} (h_ : P := by have := World.block_lt_of_cell? _ _ hw103_1; first | rwa [add_block] at this | exact this) : P := h_
theorem qzz5_ {P : Prop} (h_ : P := by have := World.block_lt_of_cell? _ _ hw103_0; first | rwa [add_block] at this | exact this) : P := h_
theorem qzz6_ {P : Prop} (h_ : P := by (with_reducible repeat (first | refine blk_drewN ?_ _ | refine blk_drew ?_ | refine blk_alloc ?_ _)); exact BK101.out) : P := h_
theorem qzz7_ {P : Prop} (h_ : P := by (with_reducible repeat (first | refine blk_drewN ?_ _ | refine blk_drew ?_ | refine blk_alloc ?_ _)); exact BK102.out) : P := h_
theorem qzz8_ {P : Prop} (h_ : P := by repeat (first | (with_reducible first | exact HB.out | apply below_alloc | apply pw_below_drewN | apply below_drew1 | refine below_set ?_ GE101.out | refine below_set ?_ GE102.out) | exact HB.out)) : P := h_
theorem qzz9_ {P : Prop} (h_ : P := by first | exact Nat.ne_of_lt (Nat.lt_of_lt_of_le (qzz5_) GW106.out) | (rw [add_block]; exact Nat.ne_of_lt (Nat.lt_of_lt_of_le (qzz5_) GW106.out)) | (show (Addr.add _ _).block ≠ _; rw [add_block]; exact Nat.ne_of_lt (Nat.lt_of_lt_of_le (qzz5_) GW106.out)) | (dsimp only; exact Nat.ne_of_lt (Nat.lt_of_lt_of_le (qzz5_) GW106.out))) : P := h_
theorem qzz10_ {P : Prop} (h_ : P := by first | exact Nat.ne_of_lt (Nat.lt_of_lt_of_le (qzz5_) GW105.out) | (rw [add_block]; exact Nat.ne_of_lt (Nat.lt_of_lt_of_le (qzz5_) GW105.out)) | (show (Addr.add _ _).block ≠ _; rw [add_block]; exact Nat.ne_of_lt (Nat.lt_of_lt_of_le (qzz5_) GW105.out)) | (dsimp only; exact Nat.ne_of_lt (Nat.lt_of_lt_of_le (qzz5_) GW105.out))) : P := h_
theorem qzz11_ {P : Prop} (h_ : P := by first | exact Nat.ne_of_lt (Nat.lt_of_lt_of_le (qzz4_) GW106.out) | (rw [add_block]; exact Nat.ne_of_lt (Nat.lt_of_lt_of_le (qzz4_) GW106.out)) | (show (Addr.add _ _).block ≠ _; rw [add_block]; exact Nat.ne_of_lt (Nat.lt_of_lt_of_le (qzz4_) GW106.out)) | (dsimp only; exact Nat.ne_of_lt (Nat.lt_of_lt_of_le (qzz4_) GW106.out))) : P := h_
theorem qzz12_ {P : Prop} (h_ : P := by first | exact Nat.ne_of_lt (Nat.lt_of_lt_of_le (qzz4_) GW105.out) | (rw [add_block]; exact Nat.ne_of_lt (Nat.lt_of_lt_of_le (qzz4_) GW105.out)) | (show (Addr.add _ _).block ≠ _; rw [add_block]; exact Nat.ne_of_lt (Nat.lt_of_lt_of_le (qzz4_) GW105.out)) | (dsimp only; exact Nat.ne_of_lt (Nat.lt_of_lt_of_le (qzz4_) GW105.out))) : P := h_
theorem qzz13_ {P : Prop} (h_ : P := by first | exact Nat.ne_of_lt (Nat.lt_of_lt_of_le (qzz3_) GW106.out) | (rw [add_block]; exact Nat.ne_of_lt (Nat.lt_of_lt_of_le (qzz3_) GW106.out)) | (show (Addr.add _ _).block ≠ _; rw [add_block]; exact Nat.ne_of_lt (Nat.lt_of_lt_of_le (qzz3_) GW106.out)) | (dsimp only; exact Nat.ne_of_lt (Nat.lt_of_lt_of_le (qzz3_) GW106.out))) : P := h_
theorem qzz14_ {P : Prop} (h_ : P := by first | exact Nat.ne_of_lt (Nat.lt_of_lt_of_le (qzz3_) GW105.out) | (rw [add_block]; exact Nat.ne_of_lt (Nat.lt_of_lt_of_le (qzz3_) GW105.out)) | (show (Addr.add _ _).block ≠ _; rw [add_block]; exact Nat.ne_of_lt (Nat.lt_of_lt_of_le (qzz3_) GW105.out)) | (dsimp only; exact Nat.ne_of_lt (Nat.lt_of_lt_of_le (qzz3_) GW105.out))) : P := h_
theorem qzz15_ {P : Prop} (h_ : P := by first | exact Nat.ne_of_lt (Nat.lt_of_lt_of_le (qzz2_) GW106.out) | (rw [add_block]; exact Nat.ne_of_lt (Nat.lt_of_lt_of_le (qzz2_) GW106.out)) | (show (Addr.add _ _).block ≠ _; rw [add_block]; exact Nat.ne_of_lt (Nat.lt_of_lt_of_le (qzz2_) GW106.out)) | (dsimp only; exact Nat.ne_of_lt (Nat.lt_of_lt_of_le (qzz2_) GW106.out))) : P := h_
theorem qzz16_ {P : Prop} (h_ : P := by first | exact Nat.ne_of_lt (Nat.lt_of_lt_of_le (qzz2_) GW105.out) | (rw [add_block]; exact Nat.ne_of_lt (Nat.lt_of_lt_of_le (qzz2_) GW105.out)) | (show (Addr.add _ _).block ≠ _; rw [add_block]; exact Nat.ne_of_lt (Nat.lt_of_lt_of_le (qzz2_) GW105.out)) | (dsimp only; exact Nat.ne_of_lt (Nat.lt_of_lt_of_le (qzz2_) GW105.out))) : P := h_
theorem qzz17_ {P : Prop} (h_ : P := by first | exact Nat.ne_of_lt (Nat.lt_of_lt_of_le (qzz1_) GW106.out) | (rw [add_block]; exact Nat.ne_of_lt (Nat.lt_of_lt_of_le (qzz1_) GW106.out)) | (show (Addr.add _ _).block ≠ _; rw [add_block]; exact Nat.ne_of_lt (Nat.lt_of_lt_of_le (qzz1_) GW106.out)) | (dsimp only; exact Nat.ne_of_lt (Nat.lt_of_lt_of_le (qzz1_) GW106.out))) : P := h_
theorem qzz18_ {P : Prop} (h_ : P := by first | exact Nat.ne_of_lt (Nat.lt_of_lt_of_le (qzz1_) GW105.out) | (rw [add_block]; exact Nat.ne_of_lt (Nat.lt_of_lt_of_le (qzz1_) GW105.out)) | (show (Addr.add _ _).block ≠ _; rw [add_block]; exact Nat.ne_of_lt (Nat.lt_of_lt_of_le (qzz1_) GW105.out)) | (dsimp only; exact Nat.ne_of_lt (Nat.lt_of_lt_of_le (qzz1_) GW105.out))) : P := h_
theorem qzz19_ {P : Prop} (h_ : P := by first | exact Nat.ne_of_lt (Nat.lt_of_lt_of_le (qzz0_) GW106.out) | (rw [add_block]; exact Nat.ne_of_lt (Nat.lt_of_lt_of_le (qzz0_) GW106.out)) | (show (Addr.add _ _).block ≠ _; rw [add_block]; exact Nat.ne_of_lt (Nat.lt_of_lt_of_le (qzz0_) GW106.out)) | (dsimp only; exact Nat.ne_of_lt (Nat.lt_of_lt_of_le (qzz0_) GW106.out))) : P := h_
theorem qzz20_ {P : Prop} (h_ : P := by first | exact Nat.ne_of_lt (Nat.lt_of_lt_of_le (qzz0_) GW105.out) | (rw [add_block]; exact Nat.ne_of_lt (Nat.lt_of_lt_of_le (qzz0_) GW105.out)) | (show (Addr.add _ _).block ≠ _; rw [add_block]; exact Nat.ne_of_lt (Nat.lt_of_lt_of_le (qzz0_) GW105.out)) | (dsimp only; exact Nat.ne_of_lt (Nat.lt_of_lt_of_le (qzz0_) GW105.out))) : P := h_
theorem qzz21_ {P : Prop} (h_ : P := by repeat (first | (with_reducible first | exact HB.out | apply below_alloc | apply pw_below_drewN | apply below_drew1 | refine below_set ?_ GE101.out | refine below_set ?_ GE102.out | refine below_set ?_ GE105.out | refine below_set ?_ GE106.out) | exact HB.out)) : P := h_
theorem qzz22_ {P : Prop} (h_ : P := by repeat (first | (with_reducible first | exact HB.out | apply below_alloc | apply pw_below_drewN | apply below_drew1 | refine below_set ?_ GE101.out | refine below_set ?_ GE102.out | refine below_set ?_ GE106.out) | exact HB.out)) : P := h_
theorem qzz23_ {P : Prop} (h_ : P := by repeat (first | (with_reducible first | exact HB.out | apply below_alloc | apply pw_below_drewN | apply below_drew1 | refine below_set ?_ GE101.out | refine below_set ?_ GE102.out | refine below_set ?_ GE105.out) | exact HB.out)) : P := h_
theorem qzz24_ {P : Prop} (h_ : P := by (with_reducible repeat (first | refine blk_drewN ?_ _ | refine blk_drew ?_ | refine blk_alloc ?_ _)); exact BK106.out) : P := h_
theorem qzz25_ {P : Prop} (h_ : P := by (with_reducible repeat (first | refine blk_drewN ?_ _ | refine blk_drew ?_ | refine blk_alloc ?_ _)); exact BK105.out) : P := h_
theorem qzz26_ {P : Prop} (h_ : P := by repeat (first | (with_reducible first | exact HB.out | apply below_alloc | apply pw_below_drewN | apply below_drew1 | refine below_set ?_ GE101.out | refine below_set ?_ GE102.out | refine below_set ?_ GE106.out | refine below_set ?_ GE105.out) | exact HB.out)) : P := h_
theorem qzz27_ {P : Prop} (h_ : P := by first | (with_reducible assumption) | assumption) : P := h_
theorem qzz28_ {P : Prop} (h_ : P := by simp only [putAll, Act.put, List.setIfInBounds_toArray, List.set_cons_zero, List.set_cons_succ]) : P := h_
theorem qzz29_ {P : Prop} (h_ : P := by first | rfl | (simp [errW_none, errW_some] <;> rfl) | (simp [*, errW_none, errW_some] <;> rfl)) : P := h_
theorem qzz30_ {P : Prop} (h_ : P := by repeat (first | (with_reducible first | exact HB.out | apply below_alloc | apply pw_below_drewN | apply below_drew1 | refine below_set ?_ GE101.out) | exact HB.out)) : P := h_
theorem qzz31_ {P : Prop} (h_ : P := by first | ((repeat (first | (with_reducible first | exact HB.out | apply below_alloc | apply pw_below_drewN | apply below_drew1 | (refine Glob.below_set ?_ (by assumption) _ _ _)) | exact HB.out)); done) | (refine Drawn0.below ?_; repeat (first | exact Drawn0.refl _ | assumption | apply Drawn0.step))) : P := h_
theorem qzz32_ {P : Prop} (h_ : P := by repeat (first | (with_reducible first | exact HB.out | apply below_alloc | apply pw_below_drewN | apply below_drew1) | exact HB.out)) : P := h_
theorem qzz33_ {P : Prop} (h_ : P := by first | rfl | (simp; done) | (simp [*]; done)) : P := h_
theorem qzz34_ {P : Prop} (h_ : P := by intro w'; go_simp; with_reducible rfl) : P := h_
theorem qzz35_ {P : Prop} (h_ : P := by simp only [Act.put, List.setIfInBounds_toArray, List.set_cons_zero, List.set_cons_succ, i64_w, i32_w]; rfl) : P := h_
theorem qzz36_ {P : Prop} (h_ : P := by rintro w' ⟨s0, s1, s2, s3, s4, s5, s6, s7, s8, s9⟩; go_simp; with_reducible rfl) : P := h_
theorem qzz37_ {P : Prop} (h_ : P := by simp only [putAll, Act.put, List.setIfInBounds_toArray, List.set_cons_zero, List.set_cons_succ]; rfl) : P := h_
theorem qzz38_ {P : Prop} (h_ : P := by go_simp; rfl) : P := h_
set_option maxHeartbeats 8000000 in
set_option maxRecDepth 100000 in
theorem grommetref12_Same.calls (k : Nat) (A0_0 : Option Addr) (c0_0 : Nat) (l0_0 : List (S45)) (a0_1 : Int) (A1_0 : Option Addr) (c1_0 : Nat) (l1_0 : List (S45)) (a1_1 : Int) (r : Bool) (w : World) (hr0_0 : Kd.C k45 w A0_0 l0_0.length l0_0) (hc0_0 : l0_0.length ≤ c0_0) (hr1_0 : Kd.C k45 w A1_0 l1_0.length l1_0) (hc1_0 : l1_0.length ≤ c1_0) (hG : Glob.G w) (h : grommetref12_Same.f k l0_0 a0_1 l1_0 a1_1 = some r) :
  Calls Tryz.prog 25 #[.agg #[.slice A0_0 l0_0.length c0_0, .int .i64 a0_1], .agg #[.slice A1_0 l1_0.length c1_0, .int .i64 a1_1]] w fun e w' => e = .returned (.bool r) ∧ Below w.heap.size w w' := by
 have hu24 := Tryz.underlying24
 have hu45 := Tryz.underlying45
 have HR0_0 := Aside0.mk hr0_0
 have HC0_0 := Aside0.mk hc0_0
 clear hr0_0 hc0_0
 have HR1_0 := Aside0.mk hr1_0
 have HC1_0 := Aside0.mk hc1_0
 clear hr1_0 hc1_0
 have HB := Aside0.mk (Below.refl w.heap.size w)
 have H : (if a0_1 = a1_1 then (grommetref12_Same.j0 k ((l0_0.length : Int) != (l1_0.length : Int)) l0_0 a0_1 l1_0 a1_1) else (grommetref12_Same.j0 k true l0_0 a0_1 l1_0 a1_1)) = some r := h
 clear h
 have HC3 := Aside0.mk H
 clear H
 go_enter Tryz.func25, Tryz.ntmps25
 go_upto_region 1 with (first | ((with_reducible refine gate_dst (N := 2) rfl ?_); (try (refine gate_guard (by rfl) ?_; dsimp only)); refine box_event ?hg (N := 2) ?hd (cs := #[.slice A0_0 l0_0.length c0_0, .int .i64 a0_1]) (t := 24) ?hr ?_; (case hd => rfl); (case hg => rfl); (case hr => first | (go_simp; done) | (go_simp; rfl)); intro gb101 hg w4 hbox hb; have n0_ := Aside0.mk (below_step (qzz32_) hb); have n1_ := Aside0.mk (hbox); have n2_ := Aside0.mk ((by rw [hg]; exact (below_size (qzz32_)) : w.heap.size ≤ gb101)); have n3_ := Aside0.mk ((by rw [hg]; exact (below_size (qzz32_)) : w.heap.size ≤ gb101)); clear HB; have HB := n0_; have BK101 := n1_; have GW101 := n2_; have GE101 := n3_; clear n0_ n1_ n2_ n3_; clear hb hbox hg) | ((with_reducible refine gate_dst (N := 3) rfl ?_); (try (refine gate_guard (by rfl) ?_; dsimp only)); refine box_event ?hg (N := 3) ?hd (cs := #[.slice A1_0 l1_0.length c1_0, .int .i64 a1_1]) (t := 24) ?hr ?_; (case hd => rfl); (case hg => rfl); (case hr => first | (go_simp; done) | (go_simp; rfl)); intro gb102 hg w5 hbox hb; have n0_ := Aside0.mk (blk_below (g := gb101) (o := .cells #[.slice A0_0 l0_0.length c0_0, .int .i64 a0_1] 24 (0, 0)) (qzz6_) hb); have n1_ := Aside0.mk (below_step (qzz30_) hb); have n2_ := Aside0.mk (hbox); have n3_ := Aside0.mk ((by rw [hg]; exact (below_size (qzz30_)) : w.heap.size ≤ gb102)); have n4_ := Aside0.mk ((by rw [hg]; exact (below_size (qzz30_)) : w.heap.size ≤ gb102)); have n5_ := Aside0.mk ((by rw [hg]; exact Nat.ne_of_lt (blk_lt (g := gb101) (o := .cells #[.slice A0_0 l0_0.length c0_0, .int .i64 a0_1] 24 (0, 0)) (qzz6_)) : gb101 ≠ gb102)); have n6_ := Aside0.mk ((by rw [hg]; exact Nat.ne_of_gt (blk_lt (g := gb101) (o := .cells #[.slice A0_0 l0_0.length c0_0, .int .i64 a0_1] 24 (0, 0)) (qzz6_)) : gb102 ≠ gb101)); clear BK101; clear HB; have BK101 := n0_; have HB := n1_; have BK102 := n2_; have GW102 := n3_; have GE102 := n4_; have NB101_102 := n5_; have NB102_101 := n6_; clear n0_ n1_ n2_ n3_ n4_ n5_ n6_; clear hb hbox hg))
 (try simp only [Act.put, List.setIfInBounds_toArray, List.set_cons_zero, List.set_cons_succ])
 go_cut [21] (fun v21 wc => ∃ (kq : Nat) (x21_2 : Bool), v21 = .bool x21_2 ∧ Aside0 (grommetref12_Same.j0 kq x21_2 l0_0 a0_1 l1_0 a1_1 = some r) ∧ Aside0 (kq ≤ k) ∧ Aside0 (wc.heap[gb101]? = some (.cells #[(.slice A0_0 l0_0.length c0_0), .int .i64 a0_1] 24 (0, 0))) ∧ Aside0 (wc.heap[gb102]? = some (.cells #[(.slice A1_0 l1_0.length c1_0), .int .i64 a1_1] 24 (0, 0))) ∧ Aside0 (Below w.heap.size w wc))
 case first =>
  have H := HC3.out
  clear HC3
  by_cases c6 : a0_1 = a1_1
  rotate_left
  ·
   rw [if_neg c6] at H
   have c6b0 : (a0_1 == a1_1) = false := beq_eq_false_iff_ne.mpr c6
   have c6b1 : (a0_1 != a1_1) = true := bne_iff_ne.mpr c6
   (first | rw [c6b0] | (simp only [i64_w, i32_w]; rw [c6b0]) | skip)
   have H' := Aside0.mk H
   clear H
   have hnb10 := NB101_102.out
   have hnc10 := NB102_101.out
   have hcz11_0 : w5.cell? ⟨gb101, 0, none⟩ = some (.slice A0_0 l0_0.length c0_0) := (blk_cell BK101.out 0).trans rfl
   have hcz11_1 : w5.cell? ⟨gb101, 1, none⟩ = some (.int .i64 a0_1) := (blk_cell BK101.out 1).trans rfl
   have hfz11_0 := blk_frozen BK101.out 0
   have hfz11_1 := blk_frozen BK101.out 1
   have hcz12_0 : w5.cell? ⟨gb102, 0, none⟩ = some (.slice A1_0 l1_0.length c1_0) := (blk_cell BK102.out 0).trans rfl
   have hcz12_1 : w5.cell? ⟨gb102, 1, none⟩ = some (.int .i64 a1_1) := (blk_cell BK102.out 1).trans rfl
   have hfz12_0 := blk_frozen BK102.out 0
   have hfz12_1 := blk_frozen BK102.out 1
   go_wp2
   go_meet
   case rel => exact ⟨_, (true), (qzz33_), H', ⟨by first | omega | exact Nat.le_refl _⟩, ⟨qzz6_⟩, ⟨qzz7_⟩, ⟨qzz8_⟩⟩
  rw [if_pos c6] at H
  have c6b0 : (a0_1 == a1_1) = true := beq_iff_eq.mpr c6
  have c6b1 : (a0_1 != a1_1) = false := bne_eq_false_iff_eq.mpr c6
  clear c6
  (first | rw [c6b0] | (simp only [i64_w, i32_w]; rw [c6b0]) | skip)
  have H' := Aside0.mk H
  clear H
  have hnb7 := NB101_102.out
  have hnc7 := NB102_101.out
  have hcz8_0 : w5.cell? ⟨gb101, 0, none⟩ = some (.slice A0_0 l0_0.length c0_0) := (blk_cell BK101.out 0).trans rfl
  have hcz8_1 : w5.cell? ⟨gb101, 1, none⟩ = some (.int .i64 a0_1) := (blk_cell BK101.out 1).trans rfl
  have hfz8_0 := blk_frozen BK101.out 0
  have hfz8_1 := blk_frozen BK101.out 1
  have hcz9_0 : w5.cell? ⟨gb102, 0, none⟩ = some (.slice A1_0 l1_0.length c1_0) := (blk_cell BK102.out 0).trans rfl
  have hcz9_1 : w5.cell? ⟨gb102, 1, none⟩ = some (.int .i64 a1_1) := (blk_cell BK102.out 1).trans rfl
  have hfz9_0 := blk_frozen BK102.out 0
  have hfz9_1 := blk_frozen BK102.out 1
  go_wp2
  go_meet
  case rel => exact ⟨_, (((l0_0.length : Int) != (l1_0.length : Int))), (qzz33_), H', ⟨by first | omega | exact Nat.le_refl _⟩, ⟨qzz6_⟩, ⟨qzz7_⟩, ⟨qzz8_⟩⟩
 case rest =>
  clear HC3
  try clear c1
  try clear c2
  try clear p2
  try clear c6
  try clear c6b0
  try clear c6b1
  try clear c7
  try clear c10
  try clear hcz11_0
  try clear hcz11_1
  try clear hcz12_0
  try clear hcz12_1
  try clear hcz8_0
  try clear hcz8_1
  try clear hcz9_0
  try clear hcz9_1
  try clear hfz11_0
  try clear hfz11_1
  try clear hfz12_0
  try clear hfz12_1
  try clear hfz8_0
  try clear hfz8_1
  try clear hfz9_0
  try clear hfz9_1
  obtain ⟨kq, x21_2, rfl, HA, HJ2, BK101, BK102, HB⟩ := hcut
  cases kq with
  | zero => exact absurd HA.out (by simp [grommetref12_Same.j0])
  | succ kj2 =>
   have H := HA.out
   clear HA
   simp only [grommetref12_Same.j0] at H
   by_cases c13 : x21_2 = true
   ·
    subst c13
    have H1 : (some false) = some r := by rw [if_pos rfl] at H; exact H
    clear H
    have H := H1
    clear H1
    obtain rfl := Option.some.inj H
    go_wp2
    go_ret
    exact ⟨qzz29_, qzz8_⟩
   replace c13 := Bool.eq_false_iff.mpr c13
   subst c13
   have H1 : (grommetref12_Same.l0 kj2 0 l0_0 a0_1 l1_0 a1_1) = some r := by rw [if_neg (show ¬ (false = true) by decide)] at H; exact H
   clear H
   have H := H1
   clear H1
   have H' := Aside0.mk H
   clear H
   go_wp2
   go_loopg [5] kj2 (fun kq v5 w' => ∃ (x5_2 : Int), v5 = .int .i64 x5_2 ∧ Aside0 (grommetref12_Same.l0 kq x5_2 l0_0 a0_1 l1_0 a1_1 = some r) ∧ Aside0 (kq ≤ kj2) ∧ Aside0 (w'.heap[gb101]? = some (.cells #[(.slice A0_0 l0_0.length c0_0), .int .i64 a0_1] 24 (0, 0))) ∧ Aside0 (w'.heap[gb102]? = some (.cells #[(.slice A1_0 l1_0.length c1_0), .int .i64 a1_1] 24 (0, 0))) ∧ Aside0 (Below w.heap.size w w'))
   case atStart => exact ⟨(0), (qzz33_), H', ⟨Nat.le_refl _⟩, ⟨qzz6_⟩, ⟨qzz7_⟩, ⟨qzz8_⟩⟩
   case round =>
    clear H'
    try clear c1
    try clear c2
    try clear p2
    try clear c6
    try clear c6b0
    try clear c6b1
    try clear c7
    try clear c10
    try clear c13
    try clear hcz11_0
    try clear hcz11_1
    try clear hcz12_0
    try clear hcz12_1
    try clear hcz8_0
    try clear hcz8_1
    try clear hcz9_0
    try clear hcz9_1
    try clear hfz11_0
    try clear hfz11_1
    try clear hfz12_0
    try clear hfz12_1
    try clear hfz8_0
    try clear hfz8_1
    try clear hfz9_0
    try clear hfz9_1
    try clear p2
    obtain ⟨x5_2, rfl, HA, HK2, BK101, BK102, HB⟩ := hrel
    cases gk with
    | zero => exact absurd HA.out (by simp [grommetref12_Same.l0])
    | succ k2 =>
     have H := HA.out
     clear HA
     simp only [grommetref12_Same.l0] at H
     by_cases c14 : x5_2 < (l0_0.length : Int)
     rotate_left
     ·
      rw [if_neg c14] at H
      have c14b0 : decide (x5_2 < (l0_0.length : Int)) = false := decide_eq_false c14
      clear c14
      obtain rfl := Option.some.inj H
      have hnb97 := NB101_102.out
      have hnc97 := NB102_101.out
      have hcz98_0 : wr.cell? ⟨gb101, 0, none⟩ = some (.slice A0_0 l0_0.length c0_0) := (blk_cell BK101.out 0).trans rfl
      have hcz98_1 : wr.cell? ⟨gb101, 1, none⟩ = some (.int .i64 a0_1) := (blk_cell BK101.out 1).trans rfl
      have hfz98_0 := blk_frozen BK101.out 0
      have hfz98_1 := blk_frozen BK101.out 1
      go_wp2
      go_ret
      exact ⟨qzz29_, qzz8_⟩
     rw [if_pos c14] at H
     have c14b0 : decide (x5_2 < (l0_0.length : Int)) = true := decide_eq_true c14
     clear c14
     by_cases c15 : 0 ≤ x5_2
     rotate_left
     ·
      rw [if_neg c15] at H
      exact absurd H (by simp)
     rw [if_pos c15] at H
     have c15b0 : decide (0 ≤ x5_2) = true := decide_eq_true c15
     clear c15
     by_cases c16 : x5_2 < (l1_0.length : Int)
     rotate_left
     ·
      rw [if_neg c16] at H
      exact absurd H (by simp)
     rw [if_pos c16] at H
     have c16b0 : decide (x5_2 < (l1_0.length : Int)) = true := decide_eq_true c16
     clear c16
     by_cases c17 : ((rd_T45 l0_0 x5_2).f0) = ((rd_T45 l1_0 x5_2).f0)
     rotate_left
     ·
      rw [if_neg c17] at H
      have c17b0 : (((rd_T45 l0_0 x5_2).f0) == ((rd_T45 l1_0 x5_2).f0)) = false := beq_eq_false_iff_ne.mpr c17
      have c17b1 : (((rd_T45 l0_0 x5_2).f0) != ((rd_T45 l1_0 x5_2).f0)) = true := bne_iff_ne.mpr c17
      obtain rfl := Option.some.inj H
      have hnb78 := NB101_102.out
      have hnc78 := NB102_101.out
      have hcz79_0 : wr.cell? ⟨gb101, 0, none⟩ = some (.slice A0_0 l0_0.length c0_0) := (blk_cell BK101.out 0).trans rfl
      have hcz79_1 : wr.cell? ⟨gb101, 1, none⟩ = some (.int .i64 a0_1) := (blk_cell BK101.out 1).trans rfl
      have hfz79_0 := blk_frozen BK101.out 0
      have hfz79_1 := blk_frozen BK101.out 1
      try go_wp2
      have n0_ := Aside0.mk (blk_drew BK101.out)
      have n1_ := Aside0.mk (blk_drew BK102.out)
      have n2_ := Aside0.mk (below_drew1 HB.out)
      clear BK101
      clear BK102
      clear HB
      have BK101 := n0_
      have BK102 := n1_
      have HB := n2_
      clear n0_ n1_ n2_
      have p103 : 0 ≤ (x5_2 : Int) := of_decide_eq_true (qzz27_)
      have q103 : x5_2 < (l0_0.length : Int) := of_decide_eq_true (qzz27_)
      obtain ⟨ad103, A103_2, c103_2, e103, hx103_0, hx103_1, hx103_2, hl103_2, hi103_2⟩ := at_T45 HR0_0.out x5_2 p103 q103
      have KX103_2 := Aside0.mk hx103_2
      have hw103_2 := hx103_2
      have hw103_1 := hx103_1
      have hw103_0 := hx103_0
      cases e103
      replace hx103_0 := (HB.out.cell (World.block_lt_of_cell? w _ hx103_0)).trans hx103_0
      replace hx103_1 := (HB.out.cell (World.block_lt_of_cell? w _ hx103_1)).trans hx103_1
      replace hx103_2 := (HB.out.cell (World.block_lt_of_cell? w _ hx103_2)).trans hx103_2
      have HR103_2 := Aside0.mk hi103_2
      have HC103_2 := Aside0.mk hl103_2
      clear hi103_2 hl103_2
      replace p103 := eq_true p103
      replace q103 := eq_true q103
      have p104 : 0 ≤ (x5_2 : Int) := of_decide_eq_true (qzz27_)
      have q104 : x5_2 < (l1_0.length : Int) := of_decide_eq_true (qzz27_)
      obtain ⟨ad104, A104_2, c104_2, e104, hx104_0, hx104_1, hx104_2, hl104_2, hi104_2⟩ := at_T45 HR1_0.out x5_2 p104 q104
      have KX104_2 := Aside0.mk hx104_2
      have hw104_2 := hx104_2
      have hw104_1 := hx104_1
      have hw104_0 := hx104_0
      cases e104
      replace hx104_0 := (HB.out.cell (World.block_lt_of_cell? w _ hx104_0)).trans hx104_0
      replace hx104_1 := (HB.out.cell (World.block_lt_of_cell? w _ hx104_1)).trans hx104_1
      replace hx104_2 := (HB.out.cell (World.block_lt_of_cell? w _ hx104_2)).trans hx104_2
      have HR104_2 := Aside0.mk hi104_2
      have HC104_2 := Aside0.mk hl104_2
      clear hi104_2 hl104_2
      replace p104 := eq_true p104
      replace q104 := eq_true q104
      refine start_ (n := 14) (S := fun w' => w'.cell? ⟨gb101, 0, none⟩ = some (.slice (some ad103) l0_0.length c0_0) ∧ w'.cell? ⟨gb101, 1, none⟩ = some (.int .i64 a0_1) ∧ w'.cell? ⟨gb102, 0, none⟩ = some (.slice (some ad104) l1_0.length c1_0) ∧ w'.cell? ⟨gb102, 1, none⟩ = some (.int .i64 a1_1) ∧ w'.cell? (ad103.add ((x5_2).toNat * 3)) = some (.int .i64 ((rd_T45 l0_0 x5_2).f0)) ∧ w'.cell? ⟨(ad103.add ((x5_2).toNat * 3)).block, (ad103.add ((x5_2).toNat * 3)).off + 1, none⟩ = some (.string ((rd_T45 l0_0 x5_2).f1)) ∧ w'.cell? ⟨(ad103.add ((x5_2).toNat * 3)).block, (ad103.add ((x5_2).toNat * 3)).off + 2, none⟩ = some (.slice A103_2 ((rd_T45 l0_0 x5_2).f2).length c103_2) ∧ w'.cell? (ad104.add ((x5_2).toNat * 3)) = some (.int .i64 ((rd_T45 l1_0 x5_2).f0)) ∧ w'.cell? ⟨(ad104.add ((x5_2).toNat * 3)).block, (ad104.add ((x5_2).toNat * 3)).off + 1, none⟩ = some (.string ((rd_T45 l1_0 x5_2).f1)) ∧ w'.cell? ⟨(ad104.add ((x5_2).toNat * 3)).block, (ad104.add ((x5_2).toNat * 3)).off + 2, none⟩ = some (.slice A104_2 ((rd_T45 l1_0 x5_2).f2).length c104_2)) (ds := []) #[false, false, false, false, false, false, false, false, false, false, false, false, false, false] (by kernel_rfl) rfl rfl ⟨(blk_cell BK101.out 0).trans rfl, (blk_cell BK101.out 1).trans rfl, (blk_cell BK102.out 0).trans rfl, (blk_cell BK102.out 1).trans rfl, ((HB.out.cell (World.block_lt_of_cell? w _ hw103_0)).trans hw103_0), ((HB.out.cell (World.block_lt_of_cell? w _ hw103_1)).trans hw103_1), ((HB.out.cell (World.block_lt_of_cell? w _ hw103_2)).trans hw103_2), ((HB.out.cell (World.block_lt_of_cell? w _ hw104_0)).trans hw104_0), ((HB.out.cell (World.block_lt_of_cell? w _ hw104_1)).trans hw104_1), ((HB.out.cell (World.block_lt_of_cell? w _ hw104_2)).trans hw104_2)⟩ (fun hHeld => ?_); refine with_tabW grommetref12_Same.tab6 grommetref12_Same.bits6 (fun HT_ HW_ => ?_)
      generalize wr.drew = w80 at BK101 BK102 HB HR103_2 HR104_2 hx103_0 hx103_1 hx103_2 hx104_0 hx104_1 hx104_2 hHeld ⊢
      refine pure_ (i := 0) (N := some 29) (v := ?_) (a' := ?_) #[true, false, false, false, false, false, false, false, false, false, false, false, false, false] rfl rfl (any_of HT_.out (by kernel_rfl)) (fun _ _ _ h => h) (Or.inl ⟨by rfl, ?_⟩) ?_ ?_
      rotate_left
      exact qzz34_
      rotate_left
      exact qzz35_
      refine pure_ (i := 2) (N := some 31) (v := ?_) (a' := ?_) #[true, false, true, false, false, false, false, false, false, false, false, false, false, false] rfl rfl (any_of HT_.out (by kernel_rfl)) (fun _ _ _ h => h) (Or.inl ⟨by rfl, ?_⟩) ?_ ?_
      rotate_left
      exact qzz34_
      rotate_left
      exact qzz35_
      refine pure_ (i := 5) (N := some 34) (v := ?_) (a' := ?_) #[true, false, true, false, false, true, false, false, false, false, false, false, false, false] rfl rfl (any_of HT_.out (by kernel_rfl)) (fun _ _ _ h => h) (Or.inl ⟨by rfl, ?_⟩) ?_ ?_
      rotate_left
      exact qzz34_
      rotate_left
      exact qzz35_
      refine pure_ (i := 7) (N := some 36) (v := ?_) (a' := ?_) #[true, false, true, false, false, true, false, true, false, false, false, false, false, false] rfl rfl (any_of HT_.out (by kernel_rfl)) (fun _ _ _ h => h) (Or.inl ⟨by rfl, ?_⟩) ?_ ?_
      rotate_left
      exact qzz34_
      rotate_left
      exact qzz35_
      refine take_ (i := 1) (N := some 30) (v := ?_) (a' := ?_) #[true, true, true, false, false, true, false, true, false, false, false, false, false, false] rfl rfl (take_ofW HT_.out HW_.out (by kernel_rfl)) (fun _ _ _ h => h) (Or.inl ⟨by rfl, ?_⟩) hHeld ?_ ?_
      rotate_left
      exact qzz36_
      rotate_left
      exact qzz35_
      refine pure_ (i := 3) (N := some 32) (v := ?_) (a' := ?_) #[true, true, true, true, false, true, false, true, false, false, false, false, false, false] rfl rfl (any_of HT_.out (by kernel_rfl)) (fun _ _ _ h => h) (Or.inl ⟨by rfl, ?_⟩) ?_ ?_
      rotate_left
      exact qzz34_
      rotate_left
      exact qzz35_
      refine take_ (i := 4) (N := some 33) (v := ?_) (a' := ?_) #[true, true, true, true, true, true, false, true, false, false, false, false, false, false] rfl rfl (take_ofW HT_.out HW_.out (by kernel_rfl)) (fun _ _ _ h => h) (Or.inl ⟨by rfl, ?_⟩) hHeld ?_ ?_
      rotate_left
      exact qzz36_
      rotate_left
      exact qzz35_
      refine take_ (i := 6) (N := some 35) (v := ?_) (a' := ?_) #[true, true, true, true, true, true, true, true, false, false, false, false, false, false] rfl rfl (take_ofW HT_.out HW_.out (by kernel_rfl)) (fun _ _ _ h => h) (Or.inl ⟨by rfl, ?_⟩) hHeld ?_ ?_
      rotate_left
      exact qzz36_
      rotate_left
      exact qzz35_
      refine pure_ (i := 8) (N := some 37) (v := ?_) (a' := ?_) #[true, true, true, true, true, true, true, true, true, false, false, false, false, false] rfl rfl (any_of HT_.out (by kernel_rfl)) (fun _ _ _ h => h) (Or.inl ⟨by rfl, ?_⟩) ?_ ?_
      rotate_left
      exact qzz34_
      rotate_left
      exact qzz35_
      refine take_ (i := 9) (N := some 38) (v := ?_) (a' := ?_) #[true, true, true, true, true, true, true, true, true, true, false, false, false, false] rfl rfl (take_ofW HT_.out HW_.out (by kernel_rfl)) (fun _ _ _ h => h) (Or.inl ⟨by rfl, ?_⟩) hHeld ?_ ?_
      rotate_left
      exact qzz36_
      rotate_left
      exact qzz35_
      refine join_ (σ := Nat × Nat) 2 #[true, true, true, true, true, true, true, true, true, true, true, true, false, false] (fun s_ => [(6, .pointer (some ⟨s_.1, 0, none⟩)), (7, .pointer (some ⟨s_.2, 0, none⟩))]) (fun s_ w' => (w'.cell? ⟨gb101, 0, none⟩ = some (.slice (some ad103) l0_0.length c0_0) ∧ w'.cell? ⟨gb101, 1, none⟩ = some (.int .i64 a0_1) ∧ w'.cell? ⟨gb102, 0, none⟩ = some (.slice (some ad104) l1_0.length c1_0) ∧ w'.cell? ⟨gb102, 1, none⟩ = some (.int .i64 a1_1) ∧ w'.cell? (ad103.add ((x5_2).toNat * 3)) = some (.int .i64 ((rd_T45 l0_0 x5_2).f0)) ∧ w'.cell? ⟨(ad103.add ((x5_2).toNat * 3)).block, (ad103.add ((x5_2).toNat * 3)).off + 1, none⟩ = some (.string ((rd_T45 l0_0 x5_2).f1)) ∧ w'.cell? ⟨(ad103.add ((x5_2).toNat * 3)).block, (ad103.add ((x5_2).toNat * 3)).off + 2, none⟩ = some (.slice A103_2 ((rd_T45 l0_0 x5_2).f2).length c103_2) ∧ w'.cell? (ad104.add ((x5_2).toNat * 3)) = some (.int .i64 ((rd_T45 l1_0 x5_2).f0)) ∧ w'.cell? ⟨(ad104.add ((x5_2).toNat * 3)).block, (ad104.add ((x5_2).toNat * 3)).off + 1, none⟩ = some (.string ((rd_T45 l1_0 x5_2).f1)) ∧ w'.cell? ⟨(ad104.add ((x5_2).toNat * 3)).block, (ad104.add ((x5_2).toNat * 3)).off + 2, none⟩ = some (.slice A104_2 ((rd_T45 l1_0 x5_2).f2).length c104_2)) ∧ (w'.heap[gb101]? = some (.cells #[.slice (some ad103) l0_0.length c0_0, .int .i64 a0_1] 24 (0, 0))) ∧ (w'.heap[gb102]? = some (.cells #[.slice (some ad104) l1_0.length c1_0, .int .i64 a1_1] 24 (0, 0))) ∧ (w'.heap[s_.1]? = some (.cells #[.int .i64 0, .string (⟨#[]⟩ : ByteArray), .slice none 0 0] 45 (0, 0))) ∧ (w'.heap[s_.2]? = some (.cells #[.int .i64 0, .string (⟨#[]⟩ : ByteArray), .slice none 0 0] 45 (0, 0))) ∧ (w.heap.size ≤ s_.1) ∧ (w.heap.size ≤ s_.1) ∧ (gb101 ≠ s_.1) ∧ (s_.1 ≠ gb101) ∧ (gb102 ≠ s_.1) ∧ (s_.1 ≠ gb102) ∧ (s_.2 ≠ s_.1) ∧ (s_.1 ≠ s_.2) ∧ (w.heap.size ≤ s_.2) ∧ (w.heap.size ≤ s_.2) ∧ (gb101 ≠ s_.2) ∧ (s_.2 ≠ gb101) ∧ (gb102 ≠ s_.2) ∧ (s_.2 ≠ gb102) ∧ (Below w.heap.size w w')) ?_ ?_
      rotate_left
      ·
       intro hCont
       refine two_ (i := 10) (j := 11) (Ni := some 6) (Nj := some 7) #[true, true, true, true, true, true, true, true, true, true, true, false, false, false] #[true, true, true, true, true, true, true, true, true, true, false, true, false, false] rfl rfl rfl rfl (two_of HT_.out (by kernel_rfl)) (by decide) (by decide) (fun K hK => ?_) (fun K hK => ?_)
       ·
        skip
        refine box_step ?hg (N := 6) ?hd (cs := #[.int .i64 0, .string (⟨#[]⟩ : ByteArray), .slice none 0 0]) (t := 45) ?hr ?_; (case hd => rfl); (case hg => rfl); (case hr => first | (go_simp; done) | (go_simp; rfl))
        intro gb105 hg w81 hbox hb
        have n0_ := Aside0.mk (blk_below (g := gb101) (o := .cells #[.slice (some ad103) l0_0.length c0_0, .int .i64 a0_1] 24 (0, 0)) (qzz6_) hb)
        have n1_ := Aside0.mk (blk_below (g := gb102) (o := .cells #[.slice (some ad104) l1_0.length c1_0, .int .i64 a1_1] 24 (0, 0)) (qzz7_) hb)
        have n2_ := Aside0.mk (below_step (qzz8_) hb)
        have n3_ := Aside0.mk (hbox)
        have n4_ := Aside0.mk ((by rw [hg]; exact (below_size (qzz8_)) : w.heap.size ≤ gb105))
        have n5_ := Aside0.mk ((by rw [hg]; exact (below_size (qzz8_)) : w.heap.size ≤ gb105))
        have n6_ := Aside0.mk ((by rw [hg]; exact Nat.ne_of_lt (blk_lt (g := gb101) (o := .cells #[.slice (some ad103) l0_0.length c0_0, .int .i64 a0_1] 24 (0, 0)) (qzz6_)) : gb101 ≠ gb105))
        have n7_ := Aside0.mk ((by rw [hg]; exact Nat.ne_of_gt (blk_lt (g := gb101) (o := .cells #[.slice (some ad103) l0_0.length c0_0, .int .i64 a0_1] 24 (0, 0)) (qzz6_)) : gb105 ≠ gb101))
        have n8_ := Aside0.mk ((by rw [hg]; exact Nat.ne_of_lt (blk_lt (g := gb102) (o := .cells #[.slice (some ad104) l1_0.length c1_0, .int .i64 a1_1] 24 (0, 0)) (qzz7_)) : gb102 ≠ gb105))
        have n9_ := Aside0.mk ((by rw [hg]; exact Nat.ne_of_gt (blk_lt (g := gb102) (o := .cells #[.slice (some ad104) l1_0.length c1_0, .int .i64 a1_1] 24 (0, 0)) (qzz7_)) : gb105 ≠ gb102))
        clear BK101
        clear BK102
        clear HB
        have BK101 := n0_
        have BK102 := n1_
        have HB := n2_
        have BK105 := n3_
        have GW105 := n4_
        have GE105 := n5_
        have NB101_105 := n6_
        have NB105_101 := n7_
        have NB102_105 := n8_
        have NB105_102 := n9_
        clear n0_ n1_ n2_ n3_ n4_ n5_ n6_ n7_ n8_ n9_
        clear hb hbox hg
        refine hK.out _ _ ⟨(blk_cell BK101.out 0).trans rfl, (blk_cell BK101.out 1).trans rfl, (blk_cell BK102.out 0).trans rfl, (blk_cell BK102.out 1).trans rfl, ((HB.out.cell (World.block_lt_of_cell? w _ hw103_0)).trans hw103_0), ((HB.out.cell (World.block_lt_of_cell? w _ hw103_1)).trans hw103_1), ((HB.out.cell (World.block_lt_of_cell? w _ hw103_2)).trans hw103_2), ((HB.out.cell (World.block_lt_of_cell? w _ hw104_0)).trans hw104_0), ((HB.out.cell (World.block_lt_of_cell? w _ hw104_1)).trans hw104_1), ((HB.out.cell (World.block_lt_of_cell? w _ hw104_2)).trans hw104_2)⟩ (fun hHeld => ?_)
        clear hK K
        refine norm_ (a' := ?_) ?_ ?_
        rotate_left
        ·
         show Act.put _ (some 6) _ = _
         simp only [Act.put, List.setIfInBounds_toArray, List.set_cons_zero, List.set_cons_succ, i64_w, i32_w]
         rfl
        refine one_ (i := 11) (N := some 7) #[true, true, true, true, true, true, true, true, true, true, true, true, false, false] rfl rfl (one_of HT_.out (by kernel_rfl)) (by decide) (fun K hK => ?_)
        refine box_step ?hg (N := 7) ?hd (cs := #[.int .i64 0, .string (⟨#[]⟩ : ByteArray), .slice none 0 0]) (t := 45) ?hr ?_; (case hd => rfl); (case hg => rfl); (case hr => first | (go_simp; done) | (go_simp; rfl))
        intro gb106 hg w82 hbox hb
        have n0_ := Aside0.mk (blk_below (g := gb101) (o := .cells #[.slice (some ad103) l0_0.length c0_0, .int .i64 a0_1] 24 (0, 0)) (qzz6_) hb)
        have n1_ := Aside0.mk (blk_below (g := gb102) (o := .cells #[.slice (some ad104) l1_0.length c1_0, .int .i64 a1_1] 24 (0, 0)) (qzz7_) hb)
        have n2_ := Aside0.mk (blk_below (g := gb105) (o := .cells #[.int .i64 0, .string (⟨#[]⟩ : ByteArray), .slice none 0 0] 45 (0, 0)) (qzz25_) hb)
        have n3_ := Aside0.mk (below_step (qzz23_) hb)
        have n4_ := Aside0.mk (hbox)
        have n5_ := Aside0.mk ((by rw [hg]; exact (below_size (qzz23_)) : w.heap.size ≤ gb106))
        have n6_ := Aside0.mk ((by rw [hg]; exact (below_size (qzz23_)) : w.heap.size ≤ gb106))
        have n7_ := Aside0.mk ((by rw [hg]; exact Nat.ne_of_lt (blk_lt (g := gb101) (o := .cells #[.slice (some ad103) l0_0.length c0_0, .int .i64 a0_1] 24 (0, 0)) (qzz6_)) : gb101 ≠ gb106))
        have n8_ := Aside0.mk ((by rw [hg]; exact Nat.ne_of_gt (blk_lt (g := gb101) (o := .cells #[.slice (some ad103) l0_0.length c0_0, .int .i64 a0_1] 24 (0, 0)) (qzz6_)) : gb106 ≠ gb101))
        have n9_ := Aside0.mk ((by rw [hg]; exact Nat.ne_of_lt (blk_lt (g := gb102) (o := .cells #[.slice (some ad104) l1_0.length c1_0, .int .i64 a1_1] 24 (0, 0)) (qzz7_)) : gb102 ≠ gb106))
        have n10_ := Aside0.mk ((by rw [hg]; exact Nat.ne_of_gt (blk_lt (g := gb102) (o := .cells #[.slice (some ad104) l1_0.length c1_0, .int .i64 a1_1] 24 (0, 0)) (qzz7_)) : gb106 ≠ gb102))
        have n11_ := Aside0.mk ((by rw [hg]; exact Nat.ne_of_lt (blk_lt (g := gb105) (o := .cells #[.int .i64 0, .string (⟨#[]⟩ : ByteArray), .slice none 0 0] 45 (0, 0)) (qzz25_)) : gb105 ≠ gb106))
        have n12_ := Aside0.mk ((by rw [hg]; exact Nat.ne_of_gt (blk_lt (g := gb105) (o := .cells #[.int .i64 0, .string (⟨#[]⟩ : ByteArray), .slice none 0 0] 45 (0, 0)) (qzz25_)) : gb106 ≠ gb105))
        clear BK101
        clear BK102
        clear BK105
        clear HB
        have BK101 := n0_
        have BK102 := n1_
        have BK105 := n2_
        have HB := n3_
        have BK106 := n4_
        have GW106 := n5_
        have GE106 := n6_
        have NB101_106 := n7_
        have NB106_101 := n8_
        have NB102_106 := n9_
        have NB106_102 := n10_
        have NB105_106 := n11_
        have NB106_105 := n12_
        clear n0_ n1_ n2_ n3_ n4_ n5_ n6_ n7_ n8_ n9_ n10_ n11_ n12_
        clear hb hbox hg
        refine hK.out _ _ ⟨(blk_cell BK101.out 0).trans rfl, (blk_cell BK101.out 1).trans rfl, (blk_cell BK102.out 0).trans rfl, (blk_cell BK102.out 1).trans rfl, ((HB.out.cell (World.block_lt_of_cell? w _ hw103_0)).trans hw103_0), ((HB.out.cell (World.block_lt_of_cell? w _ hw103_1)).trans hw103_1), ((HB.out.cell (World.block_lt_of_cell? w _ hw103_2)).trans hw103_2), ((HB.out.cell (World.block_lt_of_cell? w _ hw104_0)).trans hw104_0), ((HB.out.cell (World.block_lt_of_cell? w _ hw104_1)).trans hw104_1), ((HB.out.cell (World.block_lt_of_cell? w _ hw104_2)).trans hw104_2)⟩ (fun hHeld => ?_)
        clear hK K
        refine norm_ (a' := ?_) ?_ ?_
        rotate_left
        ·
         show Act.put _ (some 7) _ = _
         simp only [Act.put, List.setIfInBounds_toArray, List.set_cons_zero, List.set_cons_succ, i64_w, i32_w]
         rfl
        exact norm_ (qzz28_) (hCont (gb105, gb106) _ ⟨hHeld, (qzz6_), (qzz7_), (qzz25_), (qzz24_), GW105.out, GE105.out, NB101_105.out, NB105_101.out, NB102_105.out, NB105_102.out, NB106_105.out, NB105_106.out, GW106.out, GE106.out, NB101_106.out, NB106_101.out, NB102_106.out, NB106_102.out, (qzz21_)⟩)
       ·
        skip
        refine box_step ?hg (N := 7) ?hd (cs := #[.int .i64 0, .string (⟨#[]⟩ : ByteArray), .slice none 0 0]) (t := 45) ?hr ?_; (case hd => rfl); (case hg => rfl); (case hr => first | (go_simp; done) | (go_simp; rfl))
        intro gb106 hg w81 hbox hb
        have n0_ := Aside0.mk (blk_below (g := gb101) (o := .cells #[.slice (some ad103) l0_0.length c0_0, .int .i64 a0_1] 24 (0, 0)) (qzz6_) hb)
        have n1_ := Aside0.mk (blk_below (g := gb102) (o := .cells #[.slice (some ad104) l1_0.length c1_0, .int .i64 a1_1] 24 (0, 0)) (qzz7_) hb)
        have n2_ := Aside0.mk (below_step (qzz8_) hb)
        have n3_ := Aside0.mk (hbox)
        have n4_ := Aside0.mk ((by rw [hg]; exact (below_size (qzz8_)) : w.heap.size ≤ gb106))
        have n5_ := Aside0.mk ((by rw [hg]; exact (below_size (qzz8_)) : w.heap.size ≤ gb106))
        have n6_ := Aside0.mk ((by rw [hg]; exact Nat.ne_of_lt (blk_lt (g := gb101) (o := .cells #[.slice (some ad103) l0_0.length c0_0, .int .i64 a0_1] 24 (0, 0)) (qzz6_)) : gb101 ≠ gb106))
        have n7_ := Aside0.mk ((by rw [hg]; exact Nat.ne_of_gt (blk_lt (g := gb101) (o := .cells #[.slice (some ad103) l0_0.length c0_0, .int .i64 a0_1] 24 (0, 0)) (qzz6_)) : gb106 ≠ gb101))
        have n8_ := Aside0.mk ((by rw [hg]; exact Nat.ne_of_lt (blk_lt (g := gb102) (o := .cells #[.slice (some ad104) l1_0.length c1_0, .int .i64 a1_1] 24 (0, 0)) (qzz7_)) : gb102 ≠ gb106))
        have n9_ := Aside0.mk ((by rw [hg]; exact Nat.ne_of_gt (blk_lt (g := gb102) (o := .cells #[.slice (some ad104) l1_0.length c1_0, .int .i64 a1_1] 24 (0, 0)) (qzz7_)) : gb106 ≠ gb102))
        clear BK101
        clear BK102
        clear HB
        have BK101 := n0_
        have BK102 := n1_
        have HB := n2_
        have BK106 := n3_
        have GW106 := n4_
        have GE106 := n5_
        have NB101_106 := n6_
        have NB106_101 := n7_
        have NB102_106 := n8_
        have NB106_102 := n9_
        clear n0_ n1_ n2_ n3_ n4_ n5_ n6_ n7_ n8_ n9_
        clear hb hbox hg
        refine hK.out _ _ ⟨(blk_cell BK101.out 0).trans rfl, (blk_cell BK101.out 1).trans rfl, (blk_cell BK102.out 0).trans rfl, (blk_cell BK102.out 1).trans rfl, ((HB.out.cell (World.block_lt_of_cell? w _ hw103_0)).trans hw103_0), ((HB.out.cell (World.block_lt_of_cell? w _ hw103_1)).trans hw103_1), ((HB.out.cell (World.block_lt_of_cell? w _ hw103_2)).trans hw103_2), ((HB.out.cell (World.block_lt_of_cell? w _ hw104_0)).trans hw104_0), ((HB.out.cell (World.block_lt_of_cell? w _ hw104_1)).trans hw104_1), ((HB.out.cell (World.block_lt_of_cell? w _ hw104_2)).trans hw104_2)⟩ (fun hHeld => ?_)
        clear hK K
        refine norm_ (a' := ?_) ?_ ?_
        rotate_left
        ·
         show Act.put _ (some 7) _ = _
         simp only [Act.put, List.setIfInBounds_toArray, List.set_cons_zero, List.set_cons_succ, i64_w, i32_w]
         rfl
        refine one_ (i := 10) (N := some 6) #[true, true, true, true, true, true, true, true, true, true, true, true, false, false] rfl rfl (one_of HT_.out (by kernel_rfl)) (by decide) (fun K hK => ?_)
        refine box_step ?hg (N := 6) ?hd (cs := #[.int .i64 0, .string (⟨#[]⟩ : ByteArray), .slice none 0 0]) (t := 45) ?hr ?_; (case hd => rfl); (case hg => rfl); (case hr => first | (go_simp; done) | (go_simp; rfl))
        intro gb105 hg w82 hbox hb
        have n0_ := Aside0.mk (blk_below (g := gb101) (o := .cells #[.slice (some ad103) l0_0.length c0_0, .int .i64 a0_1] 24 (0, 0)) (qzz6_) hb)
        have n1_ := Aside0.mk (blk_below (g := gb102) (o := .cells #[.slice (some ad104) l1_0.length c1_0, .int .i64 a1_1] 24 (0, 0)) (qzz7_) hb)
        have n2_ := Aside0.mk (blk_below (g := gb106) (o := .cells #[.int .i64 0, .string (⟨#[]⟩ : ByteArray), .slice none 0 0] 45 (0, 0)) (qzz24_) hb)
        have n3_ := Aside0.mk (below_step (qzz22_) hb)
        have n4_ := Aside0.mk (hbox)
        have n5_ := Aside0.mk ((by rw [hg]; exact (below_size (qzz22_)) : w.heap.size ≤ gb105))
        have n6_ := Aside0.mk ((by rw [hg]; exact (below_size (qzz22_)) : w.heap.size ≤ gb105))
        have n7_ := Aside0.mk ((by rw [hg]; exact Nat.ne_of_lt (blk_lt (g := gb101) (o := .cells #[.slice (some ad103) l0_0.length c0_0, .int .i64 a0_1] 24 (0, 0)) (qzz6_)) : gb101 ≠ gb105))
        have n8_ := Aside0.mk ((by rw [hg]; exact Nat.ne_of_gt (blk_lt (g := gb101) (o := .cells #[.slice (some ad103) l0_0.length c0_0, .int .i64 a0_1] 24 (0, 0)) (qzz6_)) : gb105 ≠ gb101))
        have n9_ := Aside0.mk ((by rw [hg]; exact Nat.ne_of_lt (blk_lt (g := gb102) (o := .cells #[.slice (some ad104) l1_0.length c1_0, .int .i64 a1_1] 24 (0, 0)) (qzz7_)) : gb102 ≠ gb105))
        have n10_ := Aside0.mk ((by rw [hg]; exact Nat.ne_of_gt (blk_lt (g := gb102) (o := .cells #[.slice (some ad104) l1_0.length c1_0, .int .i64 a1_1] 24 (0, 0)) (qzz7_)) : gb105 ≠ gb102))
        have n11_ := Aside0.mk ((by rw [hg]; exact Nat.ne_of_lt (blk_lt (g := gb106) (o := .cells #[.int .i64 0, .string (⟨#[]⟩ : ByteArray), .slice none 0 0] 45 (0, 0)) (qzz24_)) : gb106 ≠ gb105))
        have n12_ := Aside0.mk ((by rw [hg]; exact Nat.ne_of_gt (blk_lt (g := gb106) (o := .cells #[.int .i64 0, .string (⟨#[]⟩ : ByteArray), .slice none 0 0] 45 (0, 0)) (qzz24_)) : gb105 ≠ gb106))
        clear BK101
        clear BK102
        clear BK106
        clear HB
        have BK101 := n0_
        have BK102 := n1_
        have BK106 := n2_
        have HB := n3_
        have BK105 := n4_
        have GW105 := n5_
        have GE105 := n6_
        have NB101_105 := n7_
        have NB105_101 := n8_
        have NB102_105 := n9_
        have NB105_102 := n10_
        have NB106_105 := n11_
        have NB105_106 := n12_
        clear n0_ n1_ n2_ n3_ n4_ n5_ n6_ n7_ n8_ n9_ n10_ n11_ n12_
        clear hb hbox hg
        refine hK.out _ _ ⟨(blk_cell BK101.out 0).trans rfl, (blk_cell BK101.out 1).trans rfl, (blk_cell BK102.out 0).trans rfl, (blk_cell BK102.out 1).trans rfl, ((HB.out.cell (World.block_lt_of_cell? w _ hw103_0)).trans hw103_0), ((HB.out.cell (World.block_lt_of_cell? w _ hw103_1)).trans hw103_1), ((HB.out.cell (World.block_lt_of_cell? w _ hw103_2)).trans hw103_2), ((HB.out.cell (World.block_lt_of_cell? w _ hw104_0)).trans hw104_0), ((HB.out.cell (World.block_lt_of_cell? w _ hw104_1)).trans hw104_1), ((HB.out.cell (World.block_lt_of_cell? w _ hw104_2)).trans hw104_2)⟩ (fun hHeld => ?_)
        clear hK K
        refine norm_ (a' := ?_) ?_ ?_
        rotate_left
        ·
         show Act.put _ (some 6) _ = _
         simp only [Act.put, List.setIfInBounds_toArray, List.set_cons_zero, List.set_cons_succ, i64_w, i32_w]
         rfl
        exact norm_ (qzz28_) (hCont (gb105, gb106) _ ⟨hHeld, (qzz6_), (qzz7_), (qzz25_), (qzz24_), GW105.out, GE105.out, NB101_105.out, NB105_101.out, NB102_105.out, NB105_102.out, NB106_105.out, NB105_106.out, GW106.out, GE106.out, NB101_106.out, NB106_101.out, NB102_106.out, NB106_102.out, (qzz26_)⟩)
      rintro ⟨gb105, gb106⟩ w83 ⟨hS_, h0_, h1_, h2_, h3_, h4_, h5_, h6_, h7_, h8_, h9_, h10_, h11_, h12_, h13_, h14_, h15_, h16_, h17_, h18_⟩
      have n0_ : Aside0 (w83.heap[gb101]? = some (.cells #[.slice (some ad103) l0_0.length c0_0, .int .i64 a0_1] 24 (0, 0))) := ⟨h0_⟩
      have n1_ : Aside0 (w83.heap[gb102]? = some (.cells #[.slice (some ad104) l1_0.length c1_0, .int .i64 a1_1] 24 (0, 0))) := ⟨h1_⟩
      have n2_ : Aside0 (w83.heap[gb105]? = some (.cells #[.int .i64 0, .string (⟨#[]⟩ : ByteArray), .slice none 0 0] 45 (0, 0))) := ⟨h2_⟩
      have n3_ : Aside0 (w83.heap[gb106]? = some (.cells #[.int .i64 0, .string (⟨#[]⟩ : ByteArray), .slice none 0 0] 45 (0, 0))) := ⟨h3_⟩
      have n4_ : Aside0 (w.heap.size ≤ gb105) := ⟨h4_⟩
      have n5_ : Aside0 (w.heap.size ≤ gb105) := ⟨h5_⟩
      have n6_ : Aside0 (gb101 ≠ gb105) := ⟨h6_⟩
      have n7_ : Aside0 (gb105 ≠ gb101) := ⟨h7_⟩
      have n8_ : Aside0 (gb102 ≠ gb105) := ⟨h8_⟩
      have n9_ : Aside0 (gb105 ≠ gb102) := ⟨h9_⟩
      have n10_ : Aside0 (gb106 ≠ gb105) := ⟨h10_⟩
      have n11_ : Aside0 (gb105 ≠ gb106) := ⟨h11_⟩
      have n12_ : Aside0 (w.heap.size ≤ gb106) := ⟨h12_⟩
      have n13_ : Aside0 (w.heap.size ≤ gb106) := ⟨h13_⟩
      have n14_ : Aside0 (gb101 ≠ gb106) := ⟨h14_⟩
      have n15_ : Aside0 (gb106 ≠ gb101) := ⟨h15_⟩
      have n16_ : Aside0 (gb102 ≠ gb106) := ⟨h16_⟩
      have n17_ : Aside0 (gb106 ≠ gb102) := ⟨h17_⟩
      have n18_ : Aside0 (Below w.heap.size w w83) := ⟨h18_⟩
      clear BK101
      clear BK102
      clear HB
      clear h0_ h1_ h2_ h3_ h4_ h5_ h6_ h7_ h8_ h9_ h10_ h11_ h12_ h13_ h14_ h15_ h16_ h17_ h18_
      have BK101 := n0_
      have BK102 := n1_
      have BK105 := n2_
      have BK106 := n3_
      have GW105 := n4_
      have GE105 := n5_
      have NB101_105 := n6_
      have NB105_101 := n7_
      have NB102_105 := n8_
      have NB105_102 := n9_
      have NB106_105 := n10_
      have NB105_106 := n11_
      have GW106 := n12_
      have GE106 := n13_
      have NB101_106 := n14_
      have NB106_101 := n15_
      have NB102_106 := n16_
      have NB106_102 := n17_
      have HB := n18_
      clear n0_ n1_ n2_ n3_ n4_ n5_ n6_ n7_ n8_ n9_ n10_ n11_ n12_ n13_ n14_ n15_ n16_ n17_ n18_
      have hHeld : w83.cell? ⟨gb101, 0, none⟩ = some (.slice (some ad103) l0_0.length c0_0) ∧ w83.cell? ⟨gb101, 1, none⟩ = some (.int .i64 a0_1) ∧ w83.cell? ⟨gb102, 0, none⟩ = some (.slice (some ad104) l1_0.length c1_0) ∧ w83.cell? ⟨gb102, 1, none⟩ = some (.int .i64 a1_1) ∧ w83.cell? (ad103.add ((x5_2).toNat * 3)) = some (.int .i64 ((rd_T45 l0_0 x5_2).f0)) ∧ w83.cell? ⟨(ad103.add ((x5_2).toNat * 3)).block, (ad103.add ((x5_2).toNat * 3)).off + 1, none⟩ = some (.string ((rd_T45 l0_0 x5_2).f1)) ∧ w83.cell? ⟨(ad103.add ((x5_2).toNat * 3)).block, (ad103.add ((x5_2).toNat * 3)).off + 2, none⟩ = some (.slice A103_2 ((rd_T45 l0_0 x5_2).f2).length c103_2) ∧ w83.cell? (ad104.add ((x5_2).toNat * 3)) = some (.int .i64 ((rd_T45 l1_0 x5_2).f0)) ∧ w83.cell? ⟨(ad104.add ((x5_2).toNat * 3)).block, (ad104.add ((x5_2).toNat * 3)).off + 1, none⟩ = some (.string ((rd_T45 l1_0 x5_2).f1)) ∧ w83.cell? ⟨(ad104.add ((x5_2).toNat * 3)).block, (ad104.add ((x5_2).toNat * 3)).off + 2, none⟩ = some (.slice A104_2 ((rd_T45 l1_0 x5_2).f2).length c104_2) := hS_
      refine norm_ (a' := ?_) ?_ ?_
      rotate_left
      exact qzz37_
      refine one_ (i := 12) (N := none) #[true, true, true, true, true, true, true, true, true, true, true, true, true, false] rfl rfl (one_of HT_.out (by kernel_rfl)) (by decide) (fun K hK => ?_)
      have hs84 : w83.cell? ⟨gb105, 0, none⟩ = some (.int .i64 0) := (blk_cell BK105.out 0).trans rfl
      have hfs84 := blk_frozen BK105.out 0
      have hns84_0 := NB101_105.out
      have hns84_1 := NB102_105.out
      have hns84_3 := NB106_105.out
      have hms84_0 := NB105_101.out
      have hms84_1 := NB105_102.out
      have hms84_3 := NB105_106.out
      have hs85 : w83.cell? ⟨gb105, 1, none⟩ = some (.string (⟨#[]⟩ : ByteArray)) := (blk_cell BK105.out 1).trans rfl
      have hfs85 := blk_frozen BK105.out 1
      have hns85_0 := NB101_105.out
      have hns85_1 := NB102_105.out
      have hns85_3 := NB106_105.out
      have hms85_0 := NB105_101.out
      have hms85_1 := NB105_102.out
      have hms85_3 := NB105_106.out
      have hs86 : w83.cell? ⟨gb105, 2, none⟩ = some (.slice none 0 0) := (blk_cell BK105.out 2).trans rfl
      have hfs86 := blk_frozen BK105.out 2
      have hns86_0 := NB101_105.out
      have hns86_1 := NB102_105.out
      have hns86_3 := NB106_105.out
      have hms86_0 := NB105_101.out
      have hms86_1 := NB105_102.out
      have hms86_3 := NB105_106.out
      refine skip_ (w1 := ?_) (by rfl) rfl ?_ ?_
      rotate_left
      exact qzz38_
      refine hK.out _ _ ⟨((cell_far (p := ⟨gb105, _, none⟩) NB101_105.out _).trans (((cell_far (p := ⟨gb105, _, none⟩) NB101_105.out _).trans (((cell_far (p := ⟨gb105, _, none⟩) NB101_105.out _).trans (hHeld.1)))))), ((cell_far (p := ⟨gb105, _, none⟩) NB101_105.out _).trans (((cell_far (p := ⟨gb105, _, none⟩) NB101_105.out _).trans (((cell_far (p := ⟨gb105, _, none⟩) NB101_105.out _).trans (hHeld.2.1)))))), ((cell_far (p := ⟨gb105, _, none⟩) NB102_105.out _).trans (((cell_far (p := ⟨gb105, _, none⟩) NB102_105.out _).trans (((cell_far (p := ⟨gb105, _, none⟩) NB102_105.out _).trans (hHeld.2.2.1)))))), ((cell_far (p := ⟨gb105, _, none⟩) NB102_105.out _).trans (((cell_far (p := ⟨gb105, _, none⟩) NB102_105.out _).trans (((cell_far (p := ⟨gb105, _, none⟩) NB102_105.out _).trans (hHeld.2.2.2.1)))))), ((cell_far (p := ⟨gb105, _, none⟩) (qzz10_) _).trans (((cell_far (p := ⟨gb105, _, none⟩) (qzz10_) _).trans (((cell_far (p := ⟨gb105, _, none⟩) (qzz10_) _).trans (hHeld.2.2.2.2.1)))))), ((cell_far (p := ⟨gb105, _, none⟩) (qzz12_) _).trans (((cell_far (p := ⟨gb105, _, none⟩) (qzz12_) _).trans (((cell_far (p := ⟨gb105, _, none⟩) (qzz12_) _).trans (hHeld.2.2.2.2.2.1)))))), ((cell_far (p := ⟨gb105, _, none⟩) (qzz14_) _).trans (((cell_far (p := ⟨gb105, _, none⟩) (qzz14_) _).trans (((cell_far (p := ⟨gb105, _, none⟩) (qzz14_) _).trans (hHeld.2.2.2.2.2.2.1)))))), ((cell_far (p := ⟨gb105, _, none⟩) (qzz16_) _).trans (((cell_far (p := ⟨gb105, _, none⟩) (qzz16_) _).trans (((cell_far (p := ⟨gb105, _, none⟩) (qzz16_) _).trans (hHeld.2.2.2.2.2.2.2.1)))))), ((cell_far (p := ⟨gb105, _, none⟩) (qzz18_) _).trans (((cell_far (p := ⟨gb105, _, none⟩) (qzz18_) _).trans (((cell_far (p := ⟨gb105, _, none⟩) (qzz18_) _).trans (hHeld.2.2.2.2.2.2.2.2.1)))))), ((cell_far (p := ⟨gb105, _, none⟩) (qzz20_) _).trans (((cell_far (p := ⟨gb105, _, none⟩) (qzz20_) _).trans (((cell_far (p := ⟨gb105, _, none⟩) (qzz20_) _).trans (hHeld.2.2.2.2.2.2.2.2.2))))))⟩ (fun hHeld => ?_)
      clear hK K
      refine one_ (i := 13) (N := none) #[true, true, true, true, true, true, true, true, true, true, true, true, true, true] rfl rfl (one_of HT_.out (by kernel_rfl)) (by decide) (fun K hK => ?_)
      have hs87 : w83.cell? ⟨gb106, 0, none⟩ = some (.int .i64 0) := (blk_cell BK106.out 0).trans rfl
      have hfs87 := blk_frozen BK106.out 0
      have hns87_0 := NB101_106.out
      have hns87_1 := NB102_106.out
      have hns87_2 := NB105_106.out
      have hms87_0 := NB106_101.out
      have hms87_1 := NB106_102.out
      have hms87_2 := NB106_105.out
      have hs88 : w83.cell? ⟨gb106, 1, none⟩ = some (.string (⟨#[]⟩ : ByteArray)) := (blk_cell BK106.out 1).trans rfl
      have hfs88 := blk_frozen BK106.out 1
      have hns88_0 := NB101_106.out
      have hns88_1 := NB102_106.out
      have hns88_2 := NB105_106.out
      have hms88_0 := NB106_101.out
      have hms88_1 := NB106_102.out
      have hms88_2 := NB106_105.out
      have hs89 : w83.cell? ⟨gb106, 2, none⟩ = some (.slice none 0 0) := (blk_cell BK106.out 2).trans rfl
      have hfs89 := blk_frozen BK106.out 2
      have hns89_0 := NB101_106.out
      have hns89_1 := NB102_106.out
      have hns89_2 := NB105_106.out
      have hms89_0 := NB106_101.out
      have hms89_1 := NB106_102.out
      have hms89_2 := NB106_105.out
      refine skip_ (w1 := ?_) (by rfl) rfl ?_ ?_
      rotate_left
      exact qzz38_
      refine hK.out _ _ ⟨((cell_far (p := ⟨gb106, _, none⟩) NB101_106.out _).trans (((cell_far (p := ⟨gb106, _, none⟩) NB101_106.out _).trans (((cell_far (p := ⟨gb106, _, none⟩) NB101_106.out _).trans (hHeld.1)))))), ((cell_far (p := ⟨gb106, _, none⟩) NB101_106.out _).trans (((cell_far (p := ⟨gb106, _, none⟩) NB101_106.out _).trans (((cell_far (p := ⟨gb106, _, none⟩) NB101_106.out _).trans (hHeld.2.1)))))), ((cell_far (p := ⟨gb106, _, none⟩) NB102_106.out _).trans (((cell_far (p := ⟨gb106, _, none⟩) NB102_106.out _).trans (((cell_far (p := ⟨gb106, _, none⟩) NB102_106.out _).trans (hHeld.2.2.1)))))), ((cell_far (p := ⟨gb106, _, none⟩) NB102_106.out _).trans (((cell_far (p := ⟨gb106, _, none⟩) NB102_106.out _).trans (((cell_far (p := ⟨gb106, _, none⟩) NB102_106.out _).trans (hHeld.2.2.2.1)))))), ((cell_far (p := ⟨gb106, _, none⟩) (qzz9_) _).trans (((cell_far (p := ⟨gb106, _, none⟩) (qzz9_) _).trans (((cell_far (p := ⟨gb106, _, none⟩) (qzz9_) _).trans (hHeld.2.2.2.2.1)))))), ((cell_far (p := ⟨gb106, _, none⟩) (qzz11_) _).trans (((cell_far (p := ⟨gb106, _, none⟩) (qzz11_) _).trans (((cell_far (p := ⟨gb106, _, none⟩) (qzz11_) _).trans (hHeld.2.2.2.2.2.1)))))), ((cell_far (p := ⟨gb106, _, none⟩) (qzz13_) _).trans (((cell_far (p := ⟨gb106, _, none⟩) (qzz13_) _).trans (((cell_far (p := ⟨gb106, _, none⟩) (qzz13_) _).trans (hHeld.2.2.2.2.2.2.1)))))), ((cell_far (p := ⟨gb106, _, none⟩) (qzz15_) _).trans (((cell_far (p := ⟨gb106, _, none⟩) (qzz15_) _).trans (((cell_far (p := ⟨gb106, _, none⟩) (qzz15_) _).trans (hHeld.2.2.2.2.2.2.2.1)))))), ((cell_far (p := ⟨gb106, _, none⟩) (qzz17_) _).trans (((cell_far (p := ⟨gb106, _, none⟩) (qzz17_) _).trans (((cell_far (p := ⟨gb106, _, none⟩) (qzz17_) _).trans (hHeld.2.2.2.2.2.2.2.2.1)))))), ((cell_far (p := ⟨gb106, _, none⟩) (qzz19_) _).trans (((cell_far (p := ⟨gb106, _, none⟩) (qzz19_) _).trans (((cell_far (p := ⟨gb106, _, none⟩) (qzz19_) _).trans (hHeld.2.2.2.2.2.2.2.2.2))))))⟩ (fun hHeld => ?_)
      clear hK K
      refine done_ (done_of HT_.out (by kernel_rfl)) ?_
      have hnb90 := NB105_101.out
      have hnc90 := NB101_105.out
      have hnb91 := NB105_102.out
      have hnc91 := NB102_105.out
      have hnb92 := NB105_106.out
      have hnc92 := NB106_105.out
      have hcz93_0 : w83.cell? ⟨gb105, 0, none⟩ = some (.int .i64 0) := (blk_cell BK105.out 0).trans rfl
      have hcz93_1 : w83.cell? ⟨gb105, 1, none⟩ = some (.string (⟨#[]⟩ : ByteArray)) := (blk_cell BK105.out 1).trans rfl
      have hcz93_2 : w83.cell? ⟨gb105, 2, none⟩ = some (.slice none 0 0) := (blk_cell BK105.out 2).trans rfl
      have hfz93_0 := blk_frozen BK105.out 0
      have hfz93_1 := blk_frozen BK105.out 1
      have hfz93_2 := blk_frozen BK105.out 2
      have hnb94 := NB106_101.out
      have hnc94 := NB101_106.out
      have hnb95 := NB106_102.out
      have hnc95 := NB102_106.out
      have hcz96_0 : w83.cell? ⟨gb106, 0, none⟩ = some (.int .i64 0) := (blk_cell BK106.out 0).trans rfl
      have hcz96_1 : w83.cell? ⟨gb106, 1, none⟩ = some (.string (⟨#[]⟩ : ByteArray)) := (blk_cell BK106.out 1).trans rfl
      have hcz96_2 : w83.cell? ⟨gb106, 2, none⟩ = some (.slice none 0 0) := (blk_cell BK106.out 2).trans rfl
      have hfz96_0 := blk_frozen BK106.out 0
      have hfz96_1 := blk_frozen BK106.out 1
      have hfz96_2 := blk_frozen BK106.out 2
      try go_wp2
      go_ret
      exact ⟨qzz29_, qzz21_⟩
     rw [if_pos c17] at H
     have c17b0 : (((rd_T45 l0_0 x5_2).f0) == ((rd_T45 l1_0 x5_2).f0)) = true := beq_iff_eq.mpr c17
     have c17b1 : (((rd_T45 l0_0 x5_2).f0) != ((rd_T45 l1_0 x5_2).f0)) = false := bne_eq_false_iff_eq.mpr c17
     clear c17
     by_cases c18 : ((rd_T45 l0_0 x5_2).f1).toList = ((rd_T45 l1_0 x5_2).f1).toList
     rotate_left
     ·
      rw [if_neg c18] at H
      have c18b0 : (((rd_T45 l0_0 x5_2).f1).toList == ((rd_T45 l1_0 x5_2).f1).toList) = false := beq_eq_false_iff_ne.mpr c18
      have c18b1 : (((rd_T45 l0_0 x5_2).f1).toList != ((rd_T45 l1_0 x5_2).f1).toList) = true := bne_iff_ne.mpr c18
      obtain rfl := Option.some.inj H
      have hnb59 := NB101_102.out
      have hnc59 := NB102_101.out
      have hcz60_0 : wr.cell? ⟨gb101, 0, none⟩ = some (.slice A0_0 l0_0.length c0_0) := (blk_cell BK101.out 0).trans rfl
      have hcz60_1 : wr.cell? ⟨gb101, 1, none⟩ = some (.int .i64 a0_1) := (blk_cell BK101.out 1).trans rfl
      have hfz60_0 := blk_frozen BK101.out 0
      have hfz60_1 := blk_frozen BK101.out 1
      try go_wp2
      have n0_ := Aside0.mk (blk_drew BK101.out)
      have n1_ := Aside0.mk (blk_drew BK102.out)
      have n2_ := Aside0.mk (below_drew1 HB.out)
      clear BK101
      clear BK102
      clear HB
      have BK101 := n0_
      have BK102 := n1_
      have HB := n2_
      clear n0_ n1_ n2_
      have p103 : 0 ≤ (x5_2 : Int) := of_decide_eq_true (qzz27_)
      have q103 : x5_2 < (l0_0.length : Int) := of_decide_eq_true (qzz27_)
      obtain ⟨ad103, A103_2, c103_2, e103, hx103_0, hx103_1, hx103_2, hl103_2, hi103_2⟩ := at_T45 HR0_0.out x5_2 p103 q103
      have KX103_2 := Aside0.mk hx103_2
      have hw103_2 := hx103_2
      have hw103_1 := hx103_1
      have hw103_0 := hx103_0
      cases e103
      replace hx103_0 := (HB.out.cell (World.block_lt_of_cell? w _ hx103_0)).trans hx103_0
      replace hx103_1 := (HB.out.cell (World.block_lt_of_cell? w _ hx103_1)).trans hx103_1
      replace hx103_2 := (HB.out.cell (World.block_lt_of_cell? w _ hx103_2)).trans hx103_2
      have HR103_2 := Aside0.mk hi103_2
      have HC103_2 := Aside0.mk hl103_2
      clear hi103_2 hl103_2
      replace p103 := eq_true p103
      replace q103 := eq_true q103
      have p104 : 0 ≤ (x5_2 : Int) := of_decide_eq_true (qzz27_)
      have q104 : x5_2 < (l1_0.length : Int) := of_decide_eq_true (qzz27_)
      obtain ⟨ad104, A104_2, c104_2, e104, hx104_0, hx104_1, hx104_2, hl104_2, hi104_2⟩ := at_T45 HR1_0.out x5_2 p104 q104
      have KX104_2 := Aside0.mk hx104_2
      have hw104_2 := hx104_2
      have hw104_1 := hx104_1
      have hw104_0 := hx104_0
      cases e104
      replace hx104_0 := (HB.out.cell (World.block_lt_of_cell? w _ hx104_0)).trans hx104_0
      replace hx104_1 := (HB.out.cell (World.block_lt_of_cell? w _ hx104_1)).trans hx104_1
      replace hx104_2 := (HB.out.cell (World.block_lt_of_cell? w _ hx104_2)).trans hx104_2
      have HR104_2 := Aside0.mk hi104_2
      have HC104_2 := Aside0.mk hl104_2
      clear hi104_2 hl104_2
      replace p104 := eq_true p104
      replace q104 := eq_true q104
      refine start_ (n := 14) (S := fun w' => w'.cell? ⟨gb101, 0, none⟩ = some (.slice (some ad103) l0_0.length c0_0) ∧ w'.cell? ⟨gb101, 1, none⟩ = some (.int .i64 a0_1) ∧ w'.cell? ⟨gb102, 0, none⟩ = some (.slice (some ad104) l1_0.length c1_0) ∧ w'.cell? ⟨gb102, 1, none⟩ = some (.int .i64 a1_1) ∧ w'.cell? (ad103.add ((x5_2).toNat * 3)) = some (.int .i64 ((rd_T45 l0_0 x5_2).f0)) ∧ w'.cell? ⟨(ad103.add ((x5_2).toNat * 3)).block, (ad103.add ((x5_2).toNat * 3)).off + 1, none⟩ = some (.string ((rd_T45 l0_0 x5_2).f1)) ∧ w'.cell? ⟨(ad103.add ((x5_2).toNat * 3)).block, (ad103.add ((x5_2).toNat * 3)).off + 2, none⟩ = some (.slice A103_2 ((rd_T45 l0_0 x5_2).f2).length c103_2) ∧ w'.cell? (ad104.add ((x5_2).toNat * 3)) = some (.int .i64 ((rd_T45 l1_0 x5_2).f0)) ∧ w'.cell? ⟨(ad104.add ((x5_2).toNat * 3)).block, (ad104.add ((x5_2).toNat * 3)).off + 1, none⟩ = some (.string ((rd_T45 l1_0 x5_2).f1)) ∧ w'.cell? ⟨(ad104.add ((x5_2).toNat * 3)).block, (ad104.add ((x5_2).toNat * 3)).off + 2, none⟩ = some (.slice A104_2 ((rd_T45 l1_0 x5_2).f2).length c104_2)) (ds := []) #[false, false, false, false, false, false, false, false, false, false, false, false, false, false] (by kernel_rfl) rfl rfl ⟨(blk_cell BK101.out 0).trans rfl, (blk_cell BK101.out 1).trans rfl, (blk_cell BK102.out 0).trans rfl, (blk_cell BK102.out 1).trans rfl, ((HB.out.cell (World.block_lt_of_cell? w _ hw103_0)).trans hw103_0), ((HB.out.cell (World.block_lt_of_cell? w _ hw103_1)).trans hw103_1), ((HB.out.cell (World.block_lt_of_cell? w _ hw103_2)).trans hw103_2), ((HB.out.cell (World.block_lt_of_cell? w _ hw104_0)).trans hw104_0), ((HB.out.cell (World.block_lt_of_cell? w _ hw104_1)).trans hw104_1), ((HB.out.cell (World.block_lt_of_cell? w _ hw104_2)).trans hw104_2)⟩ (fun hHeld => ?_); refine with_tabW grommetref12_Same.tab6 grommetref12_Same.bits6 (fun HT_ HW_ => ?_)
      generalize wr.drew = w61 at BK101 BK102 HB HR103_2 HR104_2 hx103_0 hx103_1 hx103_2 hx104_0 hx104_1 hx104_2 hHeld ⊢
      refine pure_ (i := 0) (N := some 29) (v := ?_) (a' := ?_) #[true, false, false, false, false, false, false, false, false, false, false, false, false, false] rfl rfl (any_of HT_.out (by kernel_rfl)) (fun _ _ _ h => h) (Or.inl ⟨by rfl, ?_⟩) ?_ ?_
      rotate_left
      exact qzz34_
      rotate_left
      exact qzz35_
      refine pure_ (i := 2) (N := some 31) (v := ?_) (a' := ?_) #[true, false, true, false, false, false, false, false, false, false, false, false, false, false] rfl rfl (any_of HT_.out (by kernel_rfl)) (fun _ _ _ h => h) (Or.inl ⟨by rfl, ?_⟩) ?_ ?_
      rotate_left
      exact qzz34_
      rotate_left
      exact qzz35_
      refine pure_ (i := 5) (N := some 34) (v := ?_) (a' := ?_) #[true, false, true, false, false, true, false, false, false, false, false, false, false, false] rfl rfl (any_of HT_.out (by kernel_rfl)) (fun _ _ _ h => h) (Or.inl ⟨by rfl, ?_⟩) ?_ ?_
      rotate_left
      exact qzz34_
      rotate_left
      exact qzz35_
      refine pure_ (i := 7) (N := some 36) (v := ?_) (a' := ?_) #[true, false, true, false, false, true, false, true, false, false, false, false, false, false] rfl rfl (any_of HT_.out (by kernel_rfl)) (fun _ _ _ h => h) (Or.inl ⟨by rfl, ?_⟩) ?_ ?_
      rotate_left
      exact qzz34_
      rotate_left
      exact qzz35_
      refine take_ (i := 1) (N := some 30) (v := ?_) (a' := ?_) #[true, true, true, false, false, true, false, true, false, false, false, false, false, false] rfl rfl (take_ofW HT_.out HW_.out (by kernel_rfl)) (fun _ _ _ h => h) (Or.inl ⟨by rfl, ?_⟩) hHeld ?_ ?_
      rotate_left
      exact qzz36_
      rotate_left
      exact qzz35_
      refine pure_ (i := 3) (N := some 32) (v := ?_) (a' := ?_) #[true, true, true, true, false, true, false, true, false, false, false, false, false, false] rfl rfl (any_of HT_.out (by kernel_rfl)) (fun _ _ _ h => h) (Or.inl ⟨by rfl, ?_⟩) ?_ ?_
      rotate_left
      exact qzz34_
      rotate_left
      exact qzz35_
      refine take_ (i := 4) (N := some 33) (v := ?_) (a' := ?_) #[true, true, true, true, true, true, false, true, false, false, false, false, false, false] rfl rfl (take_ofW HT_.out HW_.out (by kernel_rfl)) (fun _ _ _ h => h) (Or.inl ⟨by rfl, ?_⟩) hHeld ?_ ?_
      rotate_left
      exact qzz36_
      rotate_left
      exact qzz35_
      refine take_ (i := 6) (N := some 35) (v := ?_) (a' := ?_) #[true, true, true, true, true, true, true, true, false, false, false, false, false, false] rfl rfl (take_ofW HT_.out HW_.out (by kernel_rfl)) (fun _ _ _ h => h) (Or.inl ⟨by rfl, ?_⟩) hHeld ?_ ?_
      rotate_left
      exact qzz36_
      rotate_left
      exact qzz35_
      refine pure_ (i := 8) (N := some 37) (v := ?_) (a' := ?_) #[true, true, true, true, true, true, true, true, true, false, false, false, false, false] rfl rfl (any_of HT_.out (by kernel_rfl)) (fun _ _ _ h => h) (Or.inl ⟨by rfl, ?_⟩) ?_ ?_
      rotate_left
      exact qzz34_
      rotate_left
      exact qzz35_
      refine take_ (i := 9) (N := some 38) (v := ?_) (a' := ?_) #[true, true, true, true, true, true, true, true, true, true, false, false, false, false] rfl rfl (take_ofW HT_.out HW_.out (by kernel_rfl)) (fun _ _ _ h => h) (Or.inl ⟨by rfl, ?_⟩) hHeld ?_ ?_
      rotate_left
      exact qzz36_
      rotate_left
      exact qzz35_
      refine join_ (σ := Nat × Nat) 2 #[true, true, true, true, true, true, true, true, true, true, true, true, false, false] (fun s_ => [(6, .pointer (some ⟨s_.1, 0, none⟩)), (7, .pointer (some ⟨s_.2, 0, none⟩))]) (fun s_ w' => (w'.cell? ⟨gb101, 0, none⟩ = some (.slice (some ad103) l0_0.length c0_0) ∧ w'.cell? ⟨gb101, 1, none⟩ = some (.int .i64 a0_1) ∧ w'.cell? ⟨gb102, 0, none⟩ = some (.slice (some ad104) l1_0.length c1_0) ∧ w'.cell? ⟨gb102, 1, none⟩ = some (.int .i64 a1_1) ∧ w'.cell? (ad103.add ((x5_2).toNat * 3)) = some (.int .i64 ((rd_T45 l0_0 x5_2).f0)) ∧ w'.cell? ⟨(ad103.add ((x5_2).toNat * 3)).block, (ad103.add ((x5_2).toNat * 3)).off + 1, none⟩ = some (.string ((rd_T45 l0_0 x5_2).f1)) ∧ w'.cell? ⟨(ad103.add ((x5_2).toNat * 3)).block, (ad103.add ((x5_2).toNat * 3)).off + 2, none⟩ = some (.slice A103_2 ((rd_T45 l0_0 x5_2).f2).length c103_2) ∧ w'.cell? (ad104.add ((x5_2).toNat * 3)) = some (.int .i64 ((rd_T45 l1_0 x5_2).f0)) ∧ w'.cell? ⟨(ad104.add ((x5_2).toNat * 3)).block, (ad104.add ((x5_2).toNat * 3)).off + 1, none⟩ = some (.string ((rd_T45 l1_0 x5_2).f1)) ∧ w'.cell? ⟨(ad104.add ((x5_2).toNat * 3)).block, (ad104.add ((x5_2).toNat * 3)).off + 2, none⟩ = some (.slice A104_2 ((rd_T45 l1_0 x5_2).f2).length c104_2)) ∧ (w'.heap[gb101]? = some (.cells #[.slice (some ad103) l0_0.length c0_0, .int .i64 a0_1] 24 (0, 0))) ∧ (w'.heap[gb102]? = some (.cells #[.slice (some ad104) l1_0.length c1_0, .int .i64 a1_1] 24 (0, 0))) ∧ (w'.heap[s_.1]? = some (.cells #[.int .i64 0, .string (⟨#[]⟩ : ByteArray), .slice none 0 0] 45 (0, 0))) ∧ (w'.heap[s_.2]? = some (.cells #[.int .i64 0, .string (⟨#[]⟩ : ByteArray), .slice none 0 0] 45 (0, 0))) ∧ (w.heap.size ≤ s_.1) ∧ (w.heap.size ≤ s_.1) ∧ (gb101 ≠ s_.1) ∧ (s_.1 ≠ gb101) ∧ (gb102 ≠ s_.1) ∧ (s_.1 ≠ gb102) ∧ (s_.2 ≠ s_.1) ∧ (s_.1 ≠ s_.2) ∧ (w.heap.size ≤ s_.2) ∧ (w.heap.size ≤ s_.2) ∧ (gb101 ≠ s_.2) ∧ (s_.2 ≠ gb101) ∧ (gb102 ≠ s_.2) ∧ (s_.2 ≠ gb102) ∧ (Below w.heap.size w w')) ?_ ?_
      rotate_left
      ·
       intro hCont
       refine two_ (i := 10) (j := 11) (Ni := some 6) (Nj := some 7) #[true, true, true, true, true, true, true, true, true, true, true, false, false, false] #[true, true, true, true, true, true, true, true, true, true, false, true, false, false] rfl rfl rfl rfl (two_of HT_.out (by kernel_rfl)) (by decide) (by decide) (fun K hK => ?_) (fun K hK => ?_)
       ·
        skip
        refine box_step ?hg (N := 6) ?hd (cs := #[.int .i64 0, .string (⟨#[]⟩ : ByteArray), .slice none 0 0]) (t := 45) ?hr ?_; (case hd => rfl); (case hg => rfl); (case hr => first | (go_simp; done) | (go_simp; rfl))
        intro gb105 hg w62 hbox hb
        have n0_ := Aside0.mk (blk_below (g := gb101) (o := .cells #[.slice (some ad103) l0_0.length c0_0, .int .i64 a0_1] 24 (0, 0)) (qzz6_) hb)
        have n1_ := Aside0.mk (blk_below (g := gb102) (o := .cells #[.slice (some ad104) l1_0.length c1_0, .int .i64 a1_1] 24 (0, 0)) (qzz7_) hb)
        have n2_ := Aside0.mk (below_step (qzz8_) hb)
        have n3_ := Aside0.mk (hbox)
        have n4_ := Aside0.mk ((by rw [hg]; exact (below_size (qzz8_)) : w.heap.size ≤ gb105))
        have n5_ := Aside0.mk ((by rw [hg]; exact (below_size (qzz8_)) : w.heap.size ≤ gb105))
        have n6_ := Aside0.mk ((by rw [hg]; exact Nat.ne_of_lt (blk_lt (g := gb101) (o := .cells #[.slice (some ad103) l0_0.length c0_0, .int .i64 a0_1] 24 (0, 0)) (qzz6_)) : gb101 ≠ gb105))
        have n7_ := Aside0.mk ((by rw [hg]; exact Nat.ne_of_gt (blk_lt (g := gb101) (o := .cells #[.slice (some ad103) l0_0.length c0_0, .int .i64 a0_1] 24 (0, 0)) (qzz6_)) : gb105 ≠ gb101))
        have n8_ := Aside0.mk ((by rw [hg]; exact Nat.ne_of_lt (blk_lt (g := gb102) (o := .cells #[.slice (some ad104) l1_0.length c1_0, .int .i64 a1_1] 24 (0, 0)) (qzz7_)) : gb102 ≠ gb105))
        have n9_ := Aside0.mk ((by rw [hg]; exact Nat.ne_of_gt (blk_lt (g := gb102) (o := .cells #[.slice (some ad104) l1_0.length c1_0, .int .i64 a1_1] 24 (0, 0)) (qzz7_)) : gb105 ≠ gb102))
        clear BK101
        clear BK102
        clear HB
        have BK101 := n0_
        have BK102 := n1_
        have HB := n2_
        have BK105 := n3_
        have GW105 := n4_
        have GE105 := n5_
        have NB101_105 := n6_
        have NB105_101 := n7_
        have NB102_105 := n8_
        have NB105_102 := n9_
        clear n0_ n1_ n2_ n3_ n4_ n5_ n6_ n7_ n8_ n9_
        clear hb hbox hg
        refine hK.out _ _ ⟨(blk_cell BK101.out 0).trans rfl, (blk_cell BK101.out 1).trans rfl, (blk_cell BK102.out 0).trans rfl, (blk_cell BK102.out 1).trans rfl, ((HB.out.cell (World.block_lt_of_cell? w _ hw103_0)).trans hw103_0), ((HB.out.cell (World.block_lt_of_cell? w _ hw103_1)).trans hw103_1), ((HB.out.cell (World.block_lt_of_cell? w _ hw103_2)).trans hw103_2), ((HB.out.cell (World.block_lt_of_cell? w _ hw104_0)).trans hw104_0), ((HB.out.cell (World.block_lt_of_cell? w _ hw104_1)).trans hw104_1), ((HB.out.cell (World.block_lt_of_cell? w _ hw104_2)).trans hw104_2)⟩ (fun hHeld => ?_)
        clear hK K
        refine norm_ (a' := ?_) ?_ ?_
        rotate_left
        ·
         show Act.put _ (some 6) _ = _
         simp only [Act.put, List.setIfInBounds_toArray, List.set_cons_zero, List.set_cons_succ, i64_w, i32_w]
         rfl
        refine one_ (i := 11) (N := some 7) #[true, true, true, true, true, true, true, true, true, true, true, true, false, false] rfl rfl (one_of HT_.out (by kernel_rfl)) (by decide) (fun K hK => ?_)
        refine box_step ?hg (N := 7) ?hd (cs := #[.int .i64 0, .string (⟨#[]⟩ : ByteArray), .slice none 0 0]) (t := 45) ?hr ?_; (case hd => rfl); (case hg => rfl); (case hr => first | (go_simp; done) | (go_simp; rfl))
        intro gb106 hg w63 hbox hb
        have n0_ := Aside0.mk (blk_below (g := gb101) (o := .cells #[.slice (some ad103) l0_0.length c0_0, .int .i64 a0_1] 24 (0, 0)) (qzz6_) hb)
        have n1_ := Aside0.mk (blk_below (g := gb102) (o := .cells #[.slice (some ad104) l1_0.length c1_0, .int .i64 a1_1] 24 (0, 0)) (qzz7_) hb)
        have n2_ := Aside0.mk (blk_below (g := gb105) (o := .cells #[.int .i64 0, .string (⟨#[]⟩ : ByteArray), .slice none 0 0] 45 (0, 0)) (qzz25_) hb)
        have n3_ := Aside0.mk (below_step (qzz23_) hb)
        have n4_ := Aside0.mk (hbox)
        have n5_ := Aside0.mk ((by rw [hg]; exact (below_size (qzz23_)) : w.heap.size ≤ gb106))
        have n6_ := Aside0.mk ((by rw [hg]; exact (below_size (qzz23_)) : w.heap.size ≤ gb106))
        have n7_ := Aside0.mk ((by rw [hg]; exact Nat.ne_of_lt (blk_lt (g := gb101) (o := .cells #[.slice (some ad103) l0_0.length c0_0, .int .i64 a0_1] 24 (0, 0)) (qzz6_)) : gb101 ≠ gb106))
        have n8_ := Aside0.mk ((by rw [hg]; exact Nat.ne_of_gt (blk_lt (g := gb101) (o := .cells #[.slice (some ad103) l0_0.length c0_0, .int .i64 a0_1] 24 (0, 0)) (qzz6_)) : gb106 ≠ gb101))
        have n9_ := Aside0.mk ((by rw [hg]; exact Nat.ne_of_lt (blk_lt (g := gb102) (o := .cells #[.slice (some ad104) l1_0.length c1_0, .int .i64 a1_1] 24 (0, 0)) (qzz7_)) : gb102 ≠ gb106))
        have n10_ := Aside0.mk ((by rw [hg]; exact Nat.ne_of_gt (blk_lt (g := gb102) (o := .cells #[.slice (some ad104) l1_0.length c1_0, .int .i64 a1_1] 24 (0, 0)) (qzz7_)) : gb106 ≠ gb102))
        have n11_ := Aside0.mk ((by rw [hg]; exact Nat.ne_of_lt (blk_lt (g := gb105) (o := .cells #[.int .i64 0, .string (⟨#[]⟩ : ByteArray), .slice none 0 0] 45 (0, 0)) (qzz25_)) : gb105 ≠ gb106))
        have n12_ := Aside0.mk ((by rw [hg]; exact Nat.ne_of_gt (blk_lt (g := gb105) (o := .cells #[.int .i64 0, .string (⟨#[]⟩ : ByteArray), .slice none 0 0] 45 (0, 0)) (qzz25_)) : gb106 ≠ gb105))
        clear BK101
        clear BK102
        clear BK105
        clear HB
        have BK101 := n0_
        have BK102 := n1_
        have BK105 := n2_
        have HB := n3_
        have BK106 := n4_
        have GW106 := n5_
        have GE106 := n6_
        have NB101_106 := n7_
        have NB106_101 := n8_
        have NB102_106 := n9_
        have NB106_102 := n10_
        have NB105_106 := n11_
        have NB106_105 := n12_
        clear n0_ n1_ n2_ n3_ n4_ n5_ n6_ n7_ n8_ n9_ n10_ n11_ n12_
        clear hb hbox hg
        refine hK.out _ _ ⟨(blk_cell BK101.out 0).trans rfl, (blk_cell BK101.out 1).trans rfl, (blk_cell BK102.out 0).trans rfl, (blk_cell BK102.out 1).trans rfl, ((HB.out.cell (World.block_lt_of_cell? w _ hw103_0)).trans hw103_0), ((HB.out.cell (World.block_lt_of_cell? w _ hw103_1)).trans hw103_1), ((HB.out.cell (World.block_lt_of_cell? w _ hw103_2)).trans hw103_2), ((HB.out.cell (World.block_lt_of_cell? w _ hw104_0)).trans hw104_0), ((HB.out.cell (World.block_lt_of_cell? w _ hw104_1)).trans hw104_1), ((HB.out.cell (World.block_lt_of_cell? w _ hw104_2)).trans hw104_2)⟩ (fun hHeld => ?_)
        clear hK K
        refine norm_ (a' := ?_) ?_ ?_
        rotate_left
        ·
         show Act.put _ (some 7) _ = _
         simp only [Act.put, List.setIfInBounds_toArray, List.set_cons_zero, List.set_cons_succ, i64_w, i32_w]
         rfl
        exact norm_ (qzz28_) (hCont (gb105, gb106) _ ⟨hHeld, (qzz6_), (qzz7_), (qzz25_), (qzz24_), GW105.out, GE105.out, NB101_105.out, NB105_101.out, NB102_105.out, NB105_102.out, NB106_105.out, NB105_106.out, GW106.out, GE106.out, NB101_106.out, NB106_101.out, NB102_106.out, NB106_102.out, (qzz21_)⟩)
       ·
        skip
        refine box_step ?hg (N := 7) ?hd (cs := #[.int .i64 0, .string (⟨#[]⟩ : ByteArray), .slice none 0 0]) (t := 45) ?hr ?_; (case hd => rfl); (case hg => rfl); (case hr => first | (go_simp; done) | (go_simp; rfl))
        intro gb106 hg w62 hbox hb
        have n0_ := Aside0.mk (blk_below (g := gb101) (o := .cells #[.slice (some ad103) l0_0.length c0_0, .int .i64 a0_1] 24 (0, 0)) (qzz6_) hb)
        have n1_ := Aside0.mk (blk_below (g := gb102) (o := .cells #[.slice (some ad104) l1_0.length c1_0, .int .i64 a1_1] 24 (0, 0)) (qzz7_) hb)
        have n2_ := Aside0.mk (below_step (qzz8_) hb)
        have n3_ := Aside0.mk (hbox)
        have n4_ := Aside0.mk ((by rw [hg]; exact (below_size (qzz8_)) : w.heap.size ≤ gb106))
        have n5_ := Aside0.mk ((by rw [hg]; exact (below_size (qzz8_)) : w.heap.size ≤ gb106))
        have n6_ := Aside0.mk ((by rw [hg]; exact Nat.ne_of_lt (blk_lt (g := gb101) (o := .cells #[.slice (some ad103) l0_0.length c0_0, .int .i64 a0_1] 24 (0, 0)) (qzz6_)) : gb101 ≠ gb106))
        have n7_ := Aside0.mk ((by rw [hg]; exact Nat.ne_of_gt (blk_lt (g := gb101) (o := .cells #[.slice (some ad103) l0_0.length c0_0, .int .i64 a0_1] 24 (0, 0)) (qzz6_)) : gb106 ≠ gb101))
        have n8_ := Aside0.mk ((by rw [hg]; exact Nat.ne_of_lt (blk_lt (g := gb102) (o := .cells #[.slice (some ad104) l1_0.length c1_0, .int .i64 a1_1] 24 (0, 0)) (qzz7_)) : gb102 ≠ gb106))
        have n9_ := Aside0.mk ((by rw [hg]; exact Nat.ne_of_gt (blk_lt (g := gb102) (o := .cells #[.slice (some ad104) l1_0.length c1_0, .int .i64 a1_1] 24 (0, 0)) (qzz7_)) : gb106 ≠ gb102))
        clear BK101
        clear BK102
        clear HB
        have BK101 := n0_
        have BK102 := n1_
        have HB := n2_
        have BK106 := n3_
        have GW106 := n4_
        have GE106 := n5_
        have NB101_106 := n6_
        have NB106_101 := n7_
        have NB102_106 := n8_
        have NB106_102 := n9_
        clear n0_ n1_ n2_ n3_ n4_ n5_ n6_ n7_ n8_ n9_
        clear hb hbox hg
        refine hK.out _ _ ⟨(blk_cell BK101.out 0).trans rfl, (blk_cell BK101.out 1).trans rfl, (blk_cell BK102.out 0).trans rfl, (blk_cell BK102.out 1).trans rfl, ((HB.out.cell (World.block_lt_of_cell? w _ hw103_0)).trans hw103_0), ((HB.out.cell (World.block_lt_of_cell? w _ hw103_1)).trans hw103_1), ((HB.out.cell (World.block_lt_of_cell? w _ hw103_2)).trans hw103_2), ((HB.out.cell (World.block_lt_of_cell? w _ hw104_0)).trans hw104_0), ((HB.out.cell (World.block_lt_of_cell? w _ hw104_1)).trans hw104_1), ((HB.out.cell (World.block_lt_of_cell? w _ hw104_2)).trans hw104_2)⟩ (fun hHeld => ?_)
        clear hK K
        refine norm_ (a' := ?_) ?_ ?_
        rotate_left
        ·
         show Act.put _ (some 7) _ = _
         simp only [Act.put, List.setIfInBounds_toArray, List.set_cons_zero, List.set_cons_succ, i64_w, i32_w]
         rfl
        refine one_ (i := 10) (N := some 6) #[true, true, true, true, true, true, true, true, true, true, true, true, false, false] rfl rfl (one_of HT_.out (by kernel_rfl)) (by decide) (fun K hK => ?_)
        refine box_step ?hg (N := 6) ?hd (cs := #[.int .i64 0, .string (⟨#[]⟩ : ByteArray), .slice none 0 0]) (t := 45) ?hr ?_; (case hd => rfl); (case hg => rfl); (case hr => first | (go_simp; done) | (go_simp; rfl))
        intro gb105 hg w63 hbox hb
        have n0_ := Aside0.mk (blk_below (g := gb101) (o := .cells #[.slice (some ad103) l0_0.length c0_0, .int .i64 a0_1] 24 (0, 0)) (qzz6_) hb)
        have n1_ := Aside0.mk (blk_below (g := gb102) (o := .cells #[.slice (some ad104) l1_0.length c1_0, .int .i64 a1_1] 24 (0, 0)) (qzz7_) hb)
        have n2_ := Aside0.mk (blk_below (g := gb106) (o := .cells #[.int .i64 0, .string (⟨#[]⟩ : ByteArray), .slice none 0 0] 45 (0, 0)) (qzz24_) hb)
        have n3_ := Aside0.mk (below_step (qzz22_) hb)
        have n4_ := Aside0.mk (hbox)
        have n5_ := Aside0.mk ((by rw [hg]; exact (below_size (qzz22_)) : w.heap.size ≤ gb105))
        have n6_ := Aside0.mk ((by rw [hg]; exact (below_size (qzz22_)) : w.heap.size ≤ gb105))
        have n7_ := Aside0.mk ((by rw [hg]; exact Nat.ne_of_lt (blk_lt (g := gb101) (o := .cells #[.slice (some ad103) l0_0.length c0_0, .int .i64 a0_1] 24 (0, 0)) (qzz6_)) : gb101 ≠ gb105))
        have n8_ := Aside0.mk ((by rw [hg]; exact Nat.ne_of_gt (blk_lt (g := gb101) (o := .cells #[.slice (some ad103) l0_0.length c0_0, .int .i64 a0_1] 24 (0, 0)) (qzz6_)) : gb105 ≠ gb101))
        have n9_ := Aside0.mk ((by rw [hg]; exact Nat.ne_of_lt (blk_lt (g := gb102) (o := .cells #[.slice (some ad104) l1_0.length c1_0, .int .i64 a1_1] 24 (0, 0)) (qzz7_)) : gb102 ≠ gb105))
        have n10_ := Aside0.mk ((by rw [hg]; exact Nat.ne_of_gt (blk_lt (g := gb102) (o := .cells #[.slice (some ad104) l1_0.length c1_0, .int .i64 a1_1] 24 (0, 0)) (qzz7_)) : gb105 ≠ gb102))
        have n11_ := Aside0.mk ((by rw [hg]; exact Nat.ne_of_lt (blk_lt (g := gb106) (o := .cells #[.int .i64 0, .string (⟨#[]⟩ : ByteArray), .slice none 0 0] 45 (0, 0)) (qzz24_)) : gb106 ≠ gb105))
        have n12_ := Aside0.mk ((by rw [hg]; exact Nat.ne_of_gt (blk_lt (g := gb106) (o := .cells #[.int .i64 0, .string (⟨#[]⟩ : ByteArray), .slice none 0 0] 45 (0, 0)) (qzz24_)) : gb105 ≠ gb106))
        clear BK101
        clear BK102
        clear BK106
        clear HB
        have BK101 := n0_
        have BK102 := n1_
        have BK106 := n2_
        have HB := n3_
        have BK105 := n4_
        have GW105 := n5_
        have GE105 := n6_
        have NB101_105 := n7_
        have NB105_101 := n8_
        have NB102_105 := n9_
        have NB105_102 := n10_
        have NB106_105 := n11_
        have NB105_106 := n12_
        clear n0_ n1_ n2_ n3_ n4_ n5_ n6_ n7_ n8_ n9_ n10_ n11_ n12_
        clear hb hbox hg
        refine hK.out _ _ ⟨(blk_cell BK101.out 0).trans rfl, (blk_cell BK101.out 1).trans rfl, (blk_cell BK102.out 0).trans rfl, (blk_cell BK102.out 1).trans rfl, ((HB.out.cell (World.block_lt_of_cell? w _ hw103_0)).trans hw103_0), ((HB.out.cell (World.block_lt_of_cell? w _ hw103_1)).trans hw103_1), ((HB.out.cell (World.block_lt_of_cell? w _ hw103_2)).trans hw103_2), ((HB.out.cell (World.block_lt_of_cell? w _ hw104_0)).trans hw104_0), ((HB.out.cell (World.block_lt_of_cell? w _ hw104_1)).trans hw104_1), ((HB.out.cell (World.block_lt_of_cell? w _ hw104_2)).trans hw104_2)⟩ (fun hHeld => ?_)
        clear hK K
        refine norm_ (a' := ?_) ?_ ?_
        rotate_left
        ·
         show Act.put _ (some 6) _ = _
         simp only [Act.put, List.setIfInBounds_toArray, List.set_cons_zero, List.set_cons_succ, i64_w, i32_w]
         rfl
        exact norm_ (qzz28_) (hCont (gb105, gb106) _ ⟨hHeld, (qzz6_), (qzz7_), (qzz25_), (qzz24_), GW105.out, GE105.out, NB101_105.out, NB105_101.out, NB102_105.out, NB105_102.out, NB106_105.out, NB105_106.out, GW106.out, GE106.out, NB101_106.out, NB106_101.out, NB102_106.out, NB106_102.out, (qzz26_)⟩)
      rintro ⟨gb105, gb106⟩ w64 ⟨hS_, h0_, h1_, h2_, h3_, h4_, h5_, h6_, h7_, h8_, h9_, h10_, h11_, h12_, h13_, h14_, h15_, h16_, h17_, h18_⟩
      have n0_ : Aside0 (w64.heap[gb101]? = some (.cells #[.slice (some ad103) l0_0.length c0_0, .int .i64 a0_1] 24 (0, 0))) := ⟨h0_⟩
      have n1_ : Aside0 (w64.heap[gb102]? = some (.cells #[.slice (some ad104) l1_0.length c1_0, .int .i64 a1_1] 24 (0, 0))) := ⟨h1_⟩
      have n2_ : Aside0 (w64.heap[gb105]? = some (.cells #[.int .i64 0, .string (⟨#[]⟩ : ByteArray), .slice none 0 0] 45 (0, 0))) := ⟨h2_⟩
      have n3_ : Aside0 (w64.heap[gb106]? = some (.cells #[.int .i64 0, .string (⟨#[]⟩ : ByteArray), .slice none 0 0] 45 (0, 0))) := ⟨h3_⟩
      have n4_ : Aside0 (w.heap.size ≤ gb105) := ⟨h4_⟩
      have n5_ : Aside0 (w.heap.size ≤ gb105) := ⟨h5_⟩
      have n6_ : Aside0 (gb101 ≠ gb105) := ⟨h6_⟩
      have n7_ : Aside0 (gb105 ≠ gb101) := ⟨h7_⟩
      have n8_ : Aside0 (gb102 ≠ gb105) := ⟨h8_⟩
      have n9_ : Aside0 (gb105 ≠ gb102) := ⟨h9_⟩
      have n10_ : Aside0 (gb106 ≠ gb105) := ⟨h10_⟩
      have n11_ : Aside0 (gb105 ≠ gb106) := ⟨h11_⟩
      have n12_ : Aside0 (w.heap.size ≤ gb106) := ⟨h12_⟩
      have n13_ : Aside0 (w.heap.size ≤ gb106) := ⟨h13_⟩
      have n14_ : Aside0 (gb101 ≠ gb106) := ⟨h14_⟩
      have n15_ : Aside0 (gb106 ≠ gb101) := ⟨h15_⟩
      have n16_ : Aside0 (gb102 ≠ gb106) := ⟨h16_⟩
      have n17_ : Aside0 (gb106 ≠ gb102) := ⟨h17_⟩
      have n18_ : Aside0 (Below w.heap.size w w64) := ⟨h18_⟩
      clear BK101
      clear BK102
      clear HB
      clear h0_ h1_ h2_ h3_ h4_ h5_ h6_ h7_ h8_ h9_ h10_ h11_ h12_ h13_ h14_ h15_ h16_ h17_ h18_
      have BK101 := n0_
      have BK102 := n1_
      have BK105 := n2_
      have BK106 := n3_
      have GW105 := n4_
      have GE105 := n5_
      have NB101_105 := n6_
      have NB105_101 := n7_
      have NB102_105 := n8_
      have NB105_102 := n9_
      have NB106_105 := n10_
      have NB105_106 := n11_
      have GW106 := n12_
      have GE106 := n13_
      have NB101_106 := n14_
      have NB106_101 := n15_
      have NB102_106 := n16_
      have NB106_102 := n17_
      have HB := n18_
      clear n0_ n1_ n2_ n3_ n4_ n5_ n6_ n7_ n8_ n9_ n10_ n11_ n12_ n13_ n14_ n15_ n16_ n17_ n18_
      have hHeld : w64.cell? ⟨gb101, 0, none⟩ = some (.slice (some ad103) l0_0.length c0_0) ∧ w64.cell? ⟨gb101, 1, none⟩ = some (.int .i64 a0_1) ∧ w64.cell? ⟨gb102, 0, none⟩ = some (.slice (some ad104) l1_0.length c1_0) ∧ w64.cell? ⟨gb102, 1, none⟩ = some (.int .i64 a1_1) ∧ w64.cell? (ad103.add ((x5_2).toNat * 3)) = some (.int .i64 ((rd_T45 l0_0 x5_2).f0)) ∧ w64.cell? ⟨(ad103.add ((x5_2).toNat * 3)).block, (ad103.add ((x5_2).toNat * 3)).off + 1, none⟩ = some (.string ((rd_T45 l0_0 x5_2).f1)) ∧ w64.cell? ⟨(ad103.add ((x5_2).toNat * 3)).block, (ad103.add ((x5_2).toNat * 3)).off + 2, none⟩ = some (.slice A103_2 ((rd_T45 l0_0 x5_2).f2).length c103_2) ∧ w64.cell? (ad104.add ((x5_2).toNat * 3)) = some (.int .i64 ((rd_T45 l1_0 x5_2).f0)) ∧ w64.cell? ⟨(ad104.add ((x5_2).toNat * 3)).block, (ad104.add ((x5_2).toNat * 3)).off + 1, none⟩ = some (.string ((rd_T45 l1_0 x5_2).f1)) ∧ w64.cell? ⟨(ad104.add ((x5_2).toNat * 3)).block, (ad104.add ((x5_2).toNat * 3)).off + 2, none⟩ = some (.slice A104_2 ((rd_T45 l1_0 x5_2).f2).length c104_2) := hS_
      refine norm_ (a' := ?_) ?_ ?_
      rotate_left
      exact qzz37_
      refine one_ (i := 12) (N := none) #[true, true, true, true, true, true, true, true, true, true, true, true, true, false] rfl rfl (one_of HT_.out (by kernel_rfl)) (by decide) (fun K hK => ?_)
      have hs65 : w64.cell? ⟨gb105, 0, none⟩ = some (.int .i64 0) := (blk_cell BK105.out 0).trans rfl
      have hfs65 := blk_frozen BK105.out 0
      have hns65_0 := NB101_105.out
      have hns65_1 := NB102_105.out
      have hns65_3 := NB106_105.out
      have hms65_0 := NB105_101.out
      have hms65_1 := NB105_102.out
      have hms65_3 := NB105_106.out
      have hs66 : w64.cell? ⟨gb105, 1, none⟩ = some (.string (⟨#[]⟩ : ByteArray)) := (blk_cell BK105.out 1).trans rfl
      have hfs66 := blk_frozen BK105.out 1
      have hns66_0 := NB101_105.out
      have hns66_1 := NB102_105.out
      have hns66_3 := NB106_105.out
      have hms66_0 := NB105_101.out
      have hms66_1 := NB105_102.out
      have hms66_3 := NB105_106.out
      have hs67 : w64.cell? ⟨gb105, 2, none⟩ = some (.slice none 0 0) := (blk_cell BK105.out 2).trans rfl
      have hfs67 := blk_frozen BK105.out 2
      have hns67_0 := NB101_105.out
      have hns67_1 := NB102_105.out
      have hns67_3 := NB106_105.out
      have hms67_0 := NB105_101.out
      have hms67_1 := NB105_102.out
      have hms67_3 := NB105_106.out
      refine skip_ (w1 := ?_) (by rfl) rfl ?_ ?_
      rotate_left
      exact qzz38_
      refine hK.out _ _ ⟨((cell_far (p := ⟨gb105, _, none⟩) NB101_105.out _).trans (((cell_far (p := ⟨gb105, _, none⟩) NB101_105.out _).trans (((cell_far (p := ⟨gb105, _, none⟩) NB101_105.out _).trans (hHeld.1)))))), ((cell_far (p := ⟨gb105, _, none⟩) NB101_105.out _).trans (((cell_far (p := ⟨gb105, _, none⟩) NB101_105.out _).trans (((cell_far (p := ⟨gb105, _, none⟩) NB101_105.out _).trans (hHeld.2.1)))))), ((cell_far (p := ⟨gb105, _, none⟩) NB102_105.out _).trans (((cell_far (p := ⟨gb105, _, none⟩) NB102_105.out _).trans (((cell_far (p := ⟨gb105, _, none⟩) NB102_105.out _).trans (hHeld.2.2.1)))))), ((cell_far (p := ⟨gb105, _, none⟩) NB102_105.out _).trans (((cell_far (p := ⟨gb105, _, none⟩) NB102_105.out _).trans (((cell_far (p := ⟨gb105, _, none⟩) NB102_105.out _).trans (hHeld.2.2.2.1)))))), ((cell_far (p := ⟨gb105, _, none⟩) (qzz10_) _).trans (((cell_far (p := ⟨gb105, _, none⟩) (qzz10_) _).trans (((cell_far (p := ⟨gb105, _, none⟩) (qzz10_) _).trans (hHeld.2.2.2.2.1)))))), ((cell_far (p := ⟨gb105, _, none⟩) (qzz12_) _).trans (((cell_far (p := ⟨gb105, _, none⟩) (qzz12_) _).trans (((cell_far (p := ⟨gb105, _, none⟩) (qzz12_) _).trans (hHeld.2.2.2.2.2.1)))))), ((cell_far (p := ⟨gb105, _, none⟩) (qzz14_) _).trans (((cell_far (p := ⟨gb105, _, none⟩) (qzz14_) _).trans (((cell_far (p := ⟨gb105, _, none⟩) (qzz14_) _).trans (hHeld.2.2.2.2.2.2.1)))))), ((cell_far (p := ⟨gb105, _, none⟩) (qzz16_) _).trans (((cell_far (p := ⟨gb105, _, none⟩) (qzz16_) _).trans (((cell_far (p := ⟨gb105, _, none⟩) (qzz16_) _).trans (hHeld.2.2.2.2.2.2.2.1)))))), ((cell_far (p := ⟨gb105, _, none⟩) (qzz18_) _).trans (((cell_far (p := ⟨gb105, _, none⟩) (qzz18_) _).trans (((cell_far (p := ⟨gb105, _, none⟩) (qzz18_) _).trans (hHeld.2.2.2.2.2.2.2.2.1)))))), ((cell_far (p := ⟨gb105, _, none⟩) (qzz20_) _).trans (((cell_far (p := ⟨gb105, _, none⟩) (qzz20_) _).trans (((cell_far (p := ⟨gb105, _, none⟩) (qzz20_) _).trans (hHeld.2.2.2.2.2.2.2.2.2))))))⟩ (fun hHeld => ?_)
      clear hK K
      refine one_ (i := 13) (N := none) #[true, true, true, true, true, true, true, true, true, true, true, true, true, true] rfl rfl (one_of HT_.out (by kernel_rfl)) (by decide) (fun K hK => ?_)
      have hs68 : w64.cell? ⟨gb106, 0, none⟩ = some (.int .i64 0) := (blk_cell BK106.out 0).trans rfl
      have hfs68 := blk_frozen BK106.out 0
      have hns68_0 := NB101_106.out
      have hns68_1 := NB102_106.out
      have hns68_2 := NB105_106.out
      have hms68_0 := NB106_101.out
      have hms68_1 := NB106_102.out
      have hms68_2 := NB106_105.out
      have hs69 : w64.cell? ⟨gb106, 1, none⟩ = some (.string (⟨#[]⟩ : ByteArray)) := (blk_cell BK106.out 1).trans rfl
      have hfs69 := blk_frozen BK106.out 1
      have hns69_0 := NB101_106.out
      have hns69_1 := NB102_106.out
      have hns69_2 := NB105_106.out
      have hms69_0 := NB106_101.out
      have hms69_1 := NB106_102.out
      have hms69_2 := NB106_105.out
      have hs70 : w64.cell? ⟨gb106, 2, none⟩ = some (.slice none 0 0) := (blk_cell BK106.out 2).trans rfl
      have hfs70 := blk_frozen BK106.out 2
      have hns70_0 := NB101_106.out
      have hns70_1 := NB102_106.out
      have hns70_2 := NB105_106.out
      have hms70_0 := NB106_101.out
      have hms70_1 := NB106_102.out
      have hms70_2 := NB106_105.out
      refine skip_ (w1 := ?_) (by rfl) rfl ?_ ?_
      rotate_left
      exact qzz38_
      refine hK.out _ _ ⟨((cell_far (p := ⟨gb106, _, none⟩) NB101_106.out _).trans (((cell_far (p := ⟨gb106, _, none⟩) NB101_106.out _).trans (((cell_far (p := ⟨gb106, _, none⟩) NB101_106.out _).trans (hHeld.1)))))), ((cell_far (p := ⟨gb106, _, none⟩) NB101_106.out _).trans (((cell_far (p := ⟨gb106, _, none⟩) NB101_106.out _).trans (((cell_far (p := ⟨gb106, _, none⟩) NB101_106.out _).trans (hHeld.2.1)))))), ((cell_far (p := ⟨gb106, _, none⟩) NB102_106.out _).trans (((cell_far (p := ⟨gb106, _, none⟩) NB102_106.out _).trans (((cell_far (p := ⟨gb106, _, none⟩) NB102_106.out _).trans (hHeld.2.2.1)))))), ((cell_far (p := ⟨gb106, _, none⟩) NB102_106.out _).trans (((cell_far (p := ⟨gb106, _, none⟩) NB102_106.out _).trans (((cell_far (p := ⟨gb106, _, none⟩) NB102_106.out _).trans (hHeld.2.2.2.1)))))), ((cell_far (p := ⟨gb106, _, none⟩) (qzz9_) _).trans (((cell_far (p := ⟨gb106, _, none⟩) (qzz9_) _).trans (((cell_far (p := ⟨gb106, _, none⟩) (qzz9_) _).trans (hHeld.2.2.2.2.1)))))), ((cell_far (p := ⟨gb106, _, none⟩) (qzz11_) _).trans (((cell_far (p := ⟨gb106, _, none⟩) (qzz11_) _).trans (((cell_far (p := ⟨gb106, _, none⟩) (qzz11_) _).trans (hHeld.2.2.2.2.2.1)))))), ((cell_far (p := ⟨gb106, _, none⟩) (qzz13_) _).trans (((cell_far (p := ⟨gb106, _, none⟩) (qzz13_) _).trans (((cell_far (p := ⟨gb106, _, none⟩) (qzz13_) _).trans (hHeld.2.2.2.2.2.2.1)))))), ((cell_far (p := ⟨gb106, _, none⟩) (qzz15_) _).trans (((cell_far (p := ⟨gb106, _, none⟩) (qzz15_) _).trans (((cell_far (p := ⟨gb106, _, none⟩) (qzz15_) _).trans (hHeld.2.2.2.2.2.2.2.1)))))), ((cell_far (p := ⟨gb106, _, none⟩) (qzz17_) _).trans (((cell_far (p := ⟨gb106, _, none⟩) (qzz17_) _).trans (((cell_far (p := ⟨gb106, _, none⟩) (qzz17_) _).trans (hHeld.2.2.2.2.2.2.2.2.1)))))), ((cell_far (p := ⟨gb106, _, none⟩) (qzz19_) _).trans (((cell_far (p := ⟨gb106, _, none⟩) (qzz19_) _).trans (((cell_far (p := ⟨gb106, _, none⟩) (qzz19_) _).trans (hHeld.2.2.2.2.2.2.2.2.2))))))⟩ (fun hHeld => ?_)
      clear hK K
      refine done_ (done_of HT_.out (by kernel_rfl)) ?_
      have hnb71 := NB105_101.out
      have hnc71 := NB101_105.out
      have hnb72 := NB105_102.out
      have hnc72 := NB102_105.out
      have hnb73 := NB105_106.out
      have hnc73 := NB106_105.out
      have hcz74_0 : w64.cell? ⟨gb105, 0, none⟩ = some (.int .i64 0) := (blk_cell BK105.out 0).trans rfl
      have hcz74_1 : w64.cell? ⟨gb105, 1, none⟩ = some (.string (⟨#[]⟩ : ByteArray)) := (blk_cell BK105.out 1).trans rfl
      have hcz74_2 : w64.cell? ⟨gb105, 2, none⟩ = some (.slice none 0 0) := (blk_cell BK105.out 2).trans rfl
      have hfz74_0 := blk_frozen BK105.out 0
      have hfz74_1 := blk_frozen BK105.out 1
      have hfz74_2 := blk_frozen BK105.out 2
      have hnb75 := NB106_101.out
      have hnc75 := NB101_106.out
      have hnb76 := NB106_102.out
      have hnc76 := NB102_106.out
      have hcz77_0 : w64.cell? ⟨gb106, 0, none⟩ = some (.int .i64 0) := (blk_cell BK106.out 0).trans rfl
      have hcz77_1 : w64.cell? ⟨gb106, 1, none⟩ = some (.string (⟨#[]⟩ : ByteArray)) := (blk_cell BK106.out 1).trans rfl
      have hcz77_2 : w64.cell? ⟨gb106, 2, none⟩ = some (.slice none 0 0) := (blk_cell BK106.out 2).trans rfl
      have hfz77_0 := blk_frozen BK106.out 0
      have hfz77_1 := blk_frozen BK106.out 1
      have hfz77_2 := blk_frozen BK106.out 2
      try go_wp2
      go_ret
      exact ⟨qzz29_, qzz21_⟩
     rw [if_pos c18] at H
     have c18b0 : (((rd_T45 l0_0 x5_2).f1).toList == ((rd_T45 l1_0 x5_2).f1).toList) = true := beq_iff_eq.mpr c18
     have c18b1 : (((rd_T45 l0_0 x5_2).f1).toList != ((rd_T45 l1_0 x5_2).f1).toList) = false := bne_eq_false_iff_eq.mpr c18
     clear c18
     replace H := Option.bind_eq_some_iff.mp H
     obtain ⟨t107, A190, H⟩ := H
     replace H : (if t107 = true then (grommetref12_Same.l0 k2 (wrap64 (x5_2 + 1)) l0_0 a0_1 l1_0 a1_1) else (some false)) = some r := H
     have A19 := Aside0.mk A190
     clear A190
     by_cases c20 : t107 = true
     rotate_left
     ·
      replace c20 := Bool.eq_false_iff.mpr c20
      subst c20
      have H1 : (some false) = some r := by rw [if_neg (show ¬ (false = true) by decide)] at H; exact H
      clear H
      have H := H1
      clear H1
      obtain rfl := Option.some.inj H
      have hnb40 := NB101_102.out
      have hnc40 := NB102_101.out
      have hcz41_0 : wr.cell? ⟨gb101, 0, none⟩ = some (.slice A0_0 l0_0.length c0_0) := (blk_cell BK101.out 0).trans rfl
      have hcz41_1 : wr.cell? ⟨gb101, 1, none⟩ = some (.int .i64 a0_1) := (blk_cell BK101.out 1).trans rfl
      have hfz41_0 := blk_frozen BK101.out 0
      have hfz41_1 := blk_frozen BK101.out 1
      try go_wp2
      have n0_ := Aside0.mk (blk_drew BK101.out)
      have n1_ := Aside0.mk (blk_drew BK102.out)
      have n2_ := Aside0.mk (below_drew1 HB.out)
      clear BK101
      clear BK102
      clear HB
      have BK101 := n0_
      have BK102 := n1_
      have HB := n2_
      clear n0_ n1_ n2_
      have p103 : 0 ≤ (x5_2 : Int) := of_decide_eq_true (qzz27_)
      have q103 : x5_2 < (l0_0.length : Int) := of_decide_eq_true (qzz27_)
      obtain ⟨ad103, A103_2, c103_2, e103, hx103_0, hx103_1, hx103_2, hl103_2, hi103_2⟩ := at_T45 HR0_0.out x5_2 p103 q103
      have KX103_2 := Aside0.mk hx103_2
      have hw103_2 := hx103_2
      have hw103_1 := hx103_1
      have hw103_0 := hx103_0
      cases e103
      replace hx103_0 := (HB.out.cell (World.block_lt_of_cell? w _ hx103_0)).trans hx103_0
      replace hx103_1 := (HB.out.cell (World.block_lt_of_cell? w _ hx103_1)).trans hx103_1
      replace hx103_2 := (HB.out.cell (World.block_lt_of_cell? w _ hx103_2)).trans hx103_2
      have HR103_2 := Aside0.mk hi103_2
      have HC103_2 := Aside0.mk hl103_2
      clear hi103_2 hl103_2
      replace p103 := eq_true p103
      replace q103 := eq_true q103
      have p104 : 0 ≤ (x5_2 : Int) := of_decide_eq_true (qzz27_)
      have q104 : x5_2 < (l1_0.length : Int) := of_decide_eq_true (qzz27_)
      obtain ⟨ad104, A104_2, c104_2, e104, hx104_0, hx104_1, hx104_2, hl104_2, hi104_2⟩ := at_T45 HR1_0.out x5_2 p104 q104
      have KX104_2 := Aside0.mk hx104_2
      have hw104_2 := hx104_2
      have hw104_1 := hx104_1
      have hw104_0 := hx104_0
      cases e104
      replace hx104_0 := (HB.out.cell (World.block_lt_of_cell? w _ hx104_0)).trans hx104_0
      replace hx104_1 := (HB.out.cell (World.block_lt_of_cell? w _ hx104_1)).trans hx104_1
      replace hx104_2 := (HB.out.cell (World.block_lt_of_cell? w _ hx104_2)).trans hx104_2
      have HR104_2 := Aside0.mk hi104_2
      have HC104_2 := Aside0.mk hl104_2
      clear hi104_2 hl104_2
      replace p104 := eq_true p104
      replace q104 := eq_true q104
      refine start_ (n := 14) (S := fun w' => w'.cell? ⟨gb101, 0, none⟩ = some (.slice (some ad103) l0_0.length c0_0) ∧ w'.cell? ⟨gb101, 1, none⟩ = some (.int .i64 a0_1) ∧ w'.cell? ⟨gb102, 0, none⟩ = some (.slice (some ad104) l1_0.length c1_0) ∧ w'.cell? ⟨gb102, 1, none⟩ = some (.int .i64 a1_1) ∧ w'.cell? (ad103.add ((x5_2).toNat * 3)) = some (.int .i64 ((rd_T45 l0_0 x5_2).f0)) ∧ w'.cell? ⟨(ad103.add ((x5_2).toNat * 3)).block, (ad103.add ((x5_2).toNat * 3)).off + 1, none⟩ = some (.string ((rd_T45 l0_0 x5_2).f1)) ∧ w'.cell? ⟨(ad103.add ((x5_2).toNat * 3)).block, (ad103.add ((x5_2).toNat * 3)).off + 2, none⟩ = some (.slice A103_2 ((rd_T45 l0_0 x5_2).f2).length c103_2) ∧ w'.cell? (ad104.add ((x5_2).toNat * 3)) = some (.int .i64 ((rd_T45 l1_0 x5_2).f0)) ∧ w'.cell? ⟨(ad104.add ((x5_2).toNat * 3)).block, (ad104.add ((x5_2).toNat * 3)).off + 1, none⟩ = some (.string ((rd_T45 l1_0 x5_2).f1)) ∧ w'.cell? ⟨(ad104.add ((x5_2).toNat * 3)).block, (ad104.add ((x5_2).toNat * 3)).off + 2, none⟩ = some (.slice A104_2 ((rd_T45 l1_0 x5_2).f2).length c104_2)) (ds := []) #[false, false, false, false, false, false, false, false, false, false, false, false, false, false] (by kernel_rfl) rfl rfl ⟨(blk_cell BK101.out 0).trans rfl, (blk_cell BK101.out 1).trans rfl, (blk_cell BK102.out 0).trans rfl, (blk_cell BK102.out 1).trans rfl, ((HB.out.cell (World.block_lt_of_cell? w _ hw103_0)).trans hw103_0), ((HB.out.cell (World.block_lt_of_cell? w _ hw103_1)).trans hw103_1), ((HB.out.cell (World.block_lt_of_cell? w _ hw103_2)).trans hw103_2), ((HB.out.cell (World.block_lt_of_cell? w _ hw104_0)).trans hw104_0), ((HB.out.cell (World.block_lt_of_cell? w _ hw104_1)).trans hw104_1), ((HB.out.cell (World.block_lt_of_cell? w _ hw104_2)).trans hw104_2)⟩ (fun hHeld => ?_); refine with_tabW grommetref12_Same.tab6 grommetref12_Same.bits6 (fun HT_ HW_ => ?_)
      generalize wr.drew = w42 at BK101 BK102 HB HR103_2 HR104_2 hx103_0 hx103_1 hx103_2 hx104_0 hx104_1 hx104_2 hHeld ⊢
      refine pure_ (i := 0) (N := some 29) (v := ?_) (a' := ?_) #[true, false, false, false, false, false, false, false, false, false, false, false, false, false] rfl rfl (any_of HT_.out (by kernel_rfl)) (fun _ _ _ h => h) (Or.inl ⟨by rfl, ?_⟩) ?_ ?_
      rotate_left
      exact qzz34_
      rotate_left
      exact qzz35_
      refine pure_ (i := 2) (N := some 31) (v := ?_) (a' := ?_) #[true, false, true, false, false, false, false, false, false, false, false, false, false, false] rfl rfl (any_of HT_.out (by kernel_rfl)) (fun _ _ _ h => h) (Or.inl ⟨by rfl, ?_⟩) ?_ ?_
      rotate_left
      exact qzz34_
      rotate_left
      exact qzz35_
      refine pure_ (i := 5) (N := some 34) (v := ?_) (a' := ?_) #[true, false, true, false, false, true, false, false, false, false, false, false, false, false] rfl rfl (any_of HT_.out (by kernel_rfl)) (fun _ _ _ h => h) (Or.inl ⟨by rfl, ?_⟩) ?_ ?_
      rotate_left
      exact qzz34_
      rotate_left
      exact qzz35_
      refine pure_ (i := 7) (N := some 36) (v := ?_) (a' := ?_) #[true, false, true, false, false, true, false, true, false, false, false, false, false, false] rfl rfl (any_of HT_.out (by kernel_rfl)) (fun _ _ _ h => h) (Or.inl ⟨by rfl, ?_⟩) ?_ ?_
      rotate_left
      exact qzz34_
      rotate_left
      exact qzz35_
      refine take_ (i := 1) (N := some 30) (v := ?_) (a' := ?_) #[true, true, true, false, false, true, false, true, false, false, false, false, false, false] rfl rfl (take_ofW HT_.out HW_.out (by kernel_rfl)) (fun _ _ _ h => h) (Or.inl ⟨by rfl, ?_⟩) hHeld ?_ ?_
      rotate_left
      exact qzz36_
      rotate_left
      exact qzz35_
      refine pure_ (i := 3) (N := some 32) (v := ?_) (a' := ?_) #[true, true, true, true, false, true, false, true, false, false, false, false, false, false] rfl rfl (any_of HT_.out (by kernel_rfl)) (fun _ _ _ h => h) (Or.inl ⟨by rfl, ?_⟩) ?_ ?_
      rotate_left
      exact qzz34_
      rotate_left
      exact qzz35_
      refine take_ (i := 4) (N := some 33) (v := ?_) (a' := ?_) #[true, true, true, true, true, true, false, true, false, false, false, false, false, false] rfl rfl (take_ofW HT_.out HW_.out (by kernel_rfl)) (fun _ _ _ h => h) (Or.inl ⟨by rfl, ?_⟩) hHeld ?_ ?_
      rotate_left
      exact qzz36_
      rotate_left
      exact qzz35_
      refine take_ (i := 6) (N := some 35) (v := ?_) (a' := ?_) #[true, true, true, true, true, true, true, true, false, false, false, false, false, false] rfl rfl (take_ofW HT_.out HW_.out (by kernel_rfl)) (fun _ _ _ h => h) (Or.inl ⟨by rfl, ?_⟩) hHeld ?_ ?_
      rotate_left
      exact qzz36_
      rotate_left
      exact qzz35_
      refine pure_ (i := 8) (N := some 37) (v := ?_) (a' := ?_) #[true, true, true, true, true, true, true, true, true, false, false, false, false, false] rfl rfl (any_of HT_.out (by kernel_rfl)) (fun _ _ _ h => h) (Or.inl ⟨by rfl, ?_⟩) ?_ ?_
      rotate_left
      exact qzz34_
      rotate_left
      exact qzz35_
      refine take_ (i := 9) (N := some 38) (v := ?_) (a' := ?_) #[true, true, true, true, true, true, true, true, true, true, false, false, false, false] rfl rfl (take_ofW HT_.out HW_.out (by kernel_rfl)) (fun _ _ _ h => h) (Or.inl ⟨by rfl, ?_⟩) hHeld ?_ ?_
      rotate_left
      exact qzz36_
      rotate_left
      exact qzz35_
      refine join_ (σ := Nat × Nat) 2 #[true, true, true, true, true, true, true, true, true, true, true, true, false, false] (fun s_ => [(6, .pointer (some ⟨s_.1, 0, none⟩)), (7, .pointer (some ⟨s_.2, 0, none⟩))]) (fun s_ w' => (w'.cell? ⟨gb101, 0, none⟩ = some (.slice (some ad103) l0_0.length c0_0) ∧ w'.cell? ⟨gb101, 1, none⟩ = some (.int .i64 a0_1) ∧ w'.cell? ⟨gb102, 0, none⟩ = some (.slice (some ad104) l1_0.length c1_0) ∧ w'.cell? ⟨gb102, 1, none⟩ = some (.int .i64 a1_1) ∧ w'.cell? (ad103.add ((x5_2).toNat * 3)) = some (.int .i64 ((rd_T45 l0_0 x5_2).f0)) ∧ w'.cell? ⟨(ad103.add ((x5_2).toNat * 3)).block, (ad103.add ((x5_2).toNat * 3)).off + 1, none⟩ = some (.string ((rd_T45 l0_0 x5_2).f1)) ∧ w'.cell? ⟨(ad103.add ((x5_2).toNat * 3)).block, (ad103.add ((x5_2).toNat * 3)).off + 2, none⟩ = some (.slice A103_2 ((rd_T45 l0_0 x5_2).f2).length c103_2) ∧ w'.cell? (ad104.add ((x5_2).toNat * 3)) = some (.int .i64 ((rd_T45 l1_0 x5_2).f0)) ∧ w'.cell? ⟨(ad104.add ((x5_2).toNat * 3)).block, (ad104.add ((x5_2).toNat * 3)).off + 1, none⟩ = some (.string ((rd_T45 l1_0 x5_2).f1)) ∧ w'.cell? ⟨(ad104.add ((x5_2).toNat * 3)).block, (ad104.add ((x5_2).toNat * 3)).off + 2, none⟩ = some (.slice A104_2 ((rd_T45 l1_0 x5_2).f2).length c104_2)) ∧ (w'.heap[gb101]? = some (.cells #[.slice (some ad103) l0_0.length c0_0, .int .i64 a0_1] 24 (0, 0))) ∧ (w'.heap[gb102]? = some (.cells #[.slice (some ad104) l1_0.length c1_0, .int .i64 a1_1] 24 (0, 0))) ∧ (w'.heap[s_.1]? = some (.cells #[.int .i64 0, .string (⟨#[]⟩ : ByteArray), .slice none 0 0] 45 (0, 0))) ∧ (w'.heap[s_.2]? = some (.cells #[.int .i64 0, .string (⟨#[]⟩ : ByteArray), .slice none 0 0] 45 (0, 0))) ∧ (w.heap.size ≤ s_.1) ∧ (w.heap.size ≤ s_.1) ∧ (gb101 ≠ s_.1) ∧ (s_.1 ≠ gb101) ∧ (gb102 ≠ s_.1) ∧ (s_.1 ≠ gb102) ∧ (s_.2 ≠ s_.1) ∧ (s_.1 ≠ s_.2) ∧ (w.heap.size ≤ s_.2) ∧ (w.heap.size ≤ s_.2) ∧ (gb101 ≠ s_.2) ∧ (s_.2 ≠ gb101) ∧ (gb102 ≠ s_.2) ∧ (s_.2 ≠ gb102) ∧ (Below w.heap.size w w')) ?_ ?_
      rotate_left
      ·
       intro hCont
       refine two_ (i := 10) (j := 11) (Ni := some 6) (Nj := some 7) #[true, true, true, true, true, true, true, true, true, true, true, false, false, false] #[true, true, true, true, true, true, true, true, true, true, false, true, false, false] rfl rfl rfl rfl (two_of HT_.out (by kernel_rfl)) (by decide) (by decide) (fun K hK => ?_) (fun K hK => ?_)
       ·
        skip
        refine box_step ?hg (N := 6) ?hd (cs := #[.int .i64 0, .string (⟨#[]⟩ : ByteArray), .slice none 0 0]) (t := 45) ?hr ?_; (case hd => rfl); (case hg => rfl); (case hr => first | (go_simp; done) | (go_simp; rfl))
        intro gb105 hg w43 hbox hb
        have n0_ := Aside0.mk (blk_below (g := gb101) (o := .cells #[.slice (some ad103) l0_0.length c0_0, .int .i64 a0_1] 24 (0, 0)) (qzz6_) hb)
        have n1_ := Aside0.mk (blk_below (g := gb102) (o := .cells #[.slice (some ad104) l1_0.length c1_0, .int .i64 a1_1] 24 (0, 0)) (qzz7_) hb)
        have n2_ := Aside0.mk (below_step (qzz8_) hb)
        have n3_ := Aside0.mk (hbox)
        have n4_ := Aside0.mk ((by rw [hg]; exact (below_size (qzz8_)) : w.heap.size ≤ gb105))
        have n5_ := Aside0.mk ((by rw [hg]; exact (below_size (qzz8_)) : w.heap.size ≤ gb105))
        have n6_ := Aside0.mk ((by rw [hg]; exact Nat.ne_of_lt (blk_lt (g := gb101) (o := .cells #[.slice (some ad103) l0_0.length c0_0, .int .i64 a0_1] 24 (0, 0)) (qzz6_)) : gb101 ≠ gb105))
        have n7_ := Aside0.mk ((by rw [hg]; exact Nat.ne_of_gt (blk_lt (g := gb101) (o := .cells #[.slice (some ad103) l0_0.length c0_0, .int .i64 a0_1] 24 (0, 0)) (qzz6_)) : gb105 ≠ gb101))
        have n8_ := Aside0.mk ((by rw [hg]; exact Nat.ne_of_lt (blk_lt (g := gb102) (o := .cells #[.slice (some ad104) l1_0.length c1_0, .int .i64 a1_1] 24 (0, 0)) (qzz7_)) : gb102 ≠ gb105))
        have n9_ := Aside0.mk ((by rw [hg]; exact Nat.ne_of_gt (blk_lt (g := gb102) (o := .cells #[.slice (some ad104) l1_0.length c1_0, .int .i64 a1_1] 24 (0, 0)) (qzz7_)) : gb105 ≠ gb102))
        clear BK101
        clear BK102
        clear HB
        have BK101 := n0_
        have BK102 := n1_
        have HB := n2_
        have BK105 := n3_
        have GW105 := n4_
        have GE105 := n5_
        have NB101_105 := n6_
        have NB105_101 := n7_
        have NB102_105 := n8_
        have NB105_102 := n9_
        clear n0_ n1_ n2_ n3_ n4_ n5_ n6_ n7_ n8_ n9_
        clear hb hbox hg
        refine hK.out _ _ ⟨(blk_cell BK101.out 0).trans rfl, (blk_cell BK101.out 1).trans rfl, (blk_cell BK102.out 0).trans rfl, (blk_cell BK102.out 1).trans rfl, ((HB.out.cell (World.block_lt_of_cell? w _ hw103_0)).trans hw103_0), ((HB.out.cell (World.block_lt_of_cell? w _ hw103_1)).trans hw103_1), ((HB.out.cell (World.block_lt_of_cell? w _ hw103_2)).trans hw103_2), ((HB.out.cell (World.block_lt_of_cell? w _ hw104_0)).trans hw104_0), ((HB.out.cell (World.block_lt_of_cell? w _ hw104_1)).trans hw104_1), ((HB.out.cell (World.block_lt_of_cell? w _ hw104_2)).trans hw104_2)⟩ (fun hHeld => ?_)
        clear hK K
        refine norm_ (a' := ?_) ?_ ?_
        rotate_left
        ·
         show Act.put _ (some 6) _ = _
         simp only [Act.put, List.setIfInBounds_toArray, List.set_cons_zero, List.set_cons_succ, i64_w, i32_w]
         rfl
        refine one_ (i := 11) (N := some 7) #[true, true, true, true, true, true, true, true, true, true, true, true, false, false] rfl rfl (one_of HT_.out (by kernel_rfl)) (by decide) (fun K hK => ?_)
        refine box_step ?hg (N := 7) ?hd (cs := #[.int .i64 0, .string (⟨#[]⟩ : ByteArray), .slice none 0 0]) (t := 45) ?hr ?_; (case hd => rfl); (case hg => rfl); (case hr => first | (go_simp; done) | (go_simp; rfl))
        intro gb106 hg w44 hbox hb
        have n0_ := Aside0.mk (blk_below (g := gb101) (o := .cells #[.slice (some ad103) l0_0.length c0_0, .int .i64 a0_1] 24 (0, 0)) (qzz6_) hb)
        have n1_ := Aside0.mk (blk_below (g := gb102) (o := .cells #[.slice (some ad104) l1_0.length c1_0, .int .i64 a1_1] 24 (0, 0)) (qzz7_) hb)
        have n2_ := Aside0.mk (blk_below (g := gb105) (o := .cells #[.int .i64 0, .string (⟨#[]⟩ : ByteArray), .slice none 0 0] 45 (0, 0)) (qzz25_) hb)
        have n3_ := Aside0.mk (below_step (qzz23_) hb)
        have n4_ := Aside0.mk (hbox)
        have n5_ := Aside0.mk ((by rw [hg]; exact (below_size (qzz23_)) : w.heap.size ≤ gb106))
        have n6_ := Aside0.mk ((by rw [hg]; exact (below_size (qzz23_)) : w.heap.size ≤ gb106))
        have n7_ := Aside0.mk ((by rw [hg]; exact Nat.ne_of_lt (blk_lt (g := gb101) (o := .cells #[.slice (some ad103) l0_0.length c0_0, .int .i64 a0_1] 24 (0, 0)) (qzz6_)) : gb101 ≠ gb106))
        have n8_ := Aside0.mk ((by rw [hg]; exact Nat.ne_of_gt (blk_lt (g := gb101) (o := .cells #[.slice (some ad103) l0_0.length c0_0, .int .i64 a0_1] 24 (0, 0)) (qzz6_)) : gb106 ≠ gb101))
        have n9_ := Aside0.mk ((by rw [hg]; exact Nat.ne_of_lt (blk_lt (g := gb102) (o := .cells #[.slice (some ad104) l1_0.length c1_0, .int .i64 a1_1] 24 (0, 0)) (qzz7_)) : gb102 ≠ gb106))
        have n10_ := Aside0.mk ((by rw [hg]; exact Nat.ne_of_gt (blk_lt (g := gb102) (o := .cells #[.slice (some ad104) l1_0.length c1_0, .int .i64 a1_1] 24 (0, 0)) (qzz7_)) : gb106 ≠ gb102))
        have n11_ := Aside0.mk ((by rw [hg]; exact Nat.ne_of_lt (blk_lt (g := gb105) (o := .cells #[.int .i64 0, .string (⟨#[]⟩ : ByteArray), .slice none 0 0] 45 (0, 0)) (qzz25_)) : gb105 ≠ gb106))
        have n12_ := Aside0.mk ((by rw [hg]; exact Nat.ne_of_gt (blk_lt (g := gb105) (o := .cells #[.int .i64 0, .string (⟨#[]⟩ : ByteArray), .slice none 0 0] 45 (0, 0)) (qzz25_)) : gb106 ≠ gb105))
        clear BK101
        clear BK102
        clear BK105
        clear HB
        have BK101 := n0_
        have BK102 := n1_
        have BK105 := n2_
        have HB := n3_
        have BK106 := n4_
        have GW106 := n5_
        have GE106 := n6_
        have NB101_106 := n7_
        have NB106_101 := n8_
        have NB102_106 := n9_
        have NB106_102 := n10_
        have NB105_106 := n11_
        have NB106_105 := n12_
        clear n0_ n1_ n2_ n3_ n4_ n5_ n6_ n7_ n8_ n9_ n10_ n11_ n12_
        clear hb hbox hg
        refine hK.out _ _ ⟨(blk_cell BK101.out 0).trans rfl, (blk_cell BK101.out 1).trans rfl, (blk_cell BK102.out 0).trans rfl, (blk_cell BK102.out 1).trans rfl, ((HB.out.cell (World.block_lt_of_cell? w _ hw103_0)).trans hw103_0), ((HB.out.cell (World.block_lt_of_cell? w _ hw103_1)).trans hw103_1), ((HB.out.cell (World.block_lt_of_cell? w _ hw103_2)).trans hw103_2), ((HB.out.cell (World.block_lt_of_cell? w _ hw104_0)).trans hw104_0), ((HB.out.cell (World.block_lt_of_cell? w _ hw104_1)).trans hw104_1), ((HB.out.cell (World.block_lt_of_cell? w _ hw104_2)).trans hw104_2)⟩ (fun hHeld => ?_)
        clear hK K
        refine norm_ (a' := ?_) ?_ ?_
        rotate_left
        ·
         show Act.put _ (some 7) _ = _
         simp only [Act.put, List.setIfInBounds_toArray, List.set_cons_zero, List.set_cons_succ, i64_w, i32_w]
         rfl
        exact norm_ (qzz28_) (hCont (gb105, gb106) _ ⟨hHeld, (qzz6_), (qzz7_), (qzz25_), (qzz24_), GW105.out, GE105.out, NB101_105.out, NB105_101.out, NB102_105.out, NB105_102.out, NB106_105.out, NB105_106.out, GW106.out, GE106.out, NB101_106.out, NB106_101.out, NB102_106.out, NB106_102.out, (qzz21_)⟩)
       ·
        skip
        refine box_step ?hg (N := 7) ?hd (cs := #[.int .i64 0, .string (⟨#[]⟩ : ByteArray), .slice none 0 0]) (t := 45) ?hr ?_; (case hd => rfl); (case hg => rfl); (case hr => first | (go_simp; done) | (go_simp; rfl))
        intro gb106 hg w43 hbox hb
        have n0_ := Aside0.mk (blk_below (g := gb101) (o := .cells #[.slice (some ad103) l0_0.length c0_0, .int .i64 a0_1] 24 (0, 0)) (qzz6_) hb)
        have n1_ := Aside0.mk (blk_below (g := gb102) (o := .cells #[.slice (some ad104) l1_0.length c1_0, .int .i64 a1_1] 24 (0, 0)) (qzz7_) hb)
        have n2_ := Aside0.mk (below_step (qzz8_) hb)
        have n3_ := Aside0.mk (hbox)
        have n4_ := Aside0.mk ((by rw [hg]; exact (below_size (qzz8_)) : w.heap.size ≤ gb106))
        have n5_ := Aside0.mk ((by rw [hg]; exact (below_size (qzz8_)) : w.heap.size ≤ gb106))
        have n6_ := Aside0.mk ((by rw [hg]; exact Nat.ne_of_lt (blk_lt (g := gb101) (o := .cells #[.slice (some ad103) l0_0.length c0_0, .int .i64 a0_1] 24 (0, 0)) (qzz6_)) : gb101 ≠ gb106))
        have n7_ := Aside0.mk ((by rw [hg]; exact Nat.ne_of_gt (blk_lt (g := gb101) (o := .cells #[.slice (some ad103) l0_0.length c0_0, .int .i64 a0_1] 24 (0, 0)) (qzz6_)) : gb106 ≠ gb101))
        have n8_ := Aside0.mk ((by rw [hg]; exact Nat.ne_of_lt (blk_lt (g := gb102) (o := .cells #[.slice (some ad104) l1_0.length c1_0, .int .i64 a1_1] 24 (0, 0)) (qzz7_)) : gb102 ≠ gb106))
        have n9_ := Aside0.mk ((by rw [hg]; exact Nat.ne_of_gt (blk_lt (g := gb102) (o := .cells #[.slice (some ad104) l1_0.length c1_0, .int .i64 a1_1] 24 (0, 0)) (qzz7_)) : gb106 ≠ gb102))
        clear BK101
        clear BK102
        clear HB
        have BK101 := n0_
        have BK102 := n1_
        have HB := n2_
        have BK106 := n3_
        have GW106 := n4_
        have GE106 := n5_
        have NB101_106 := n6_
        have NB106_101 := n7_
        have NB102_106 := n8_
        have NB106_102 := n9_
        clear n0_ n1_ n2_ n3_ n4_ n5_ n6_ n7_ n8_ n9_
        clear hb hbox hg
        refine hK.out _ _ ⟨(blk_cell BK101.out 0).trans rfl, (blk_cell BK101.out 1).trans rfl, (blk_cell BK102.out 0).trans rfl, (blk_cell BK102.out 1).trans rfl, ((HB.out.cell (World.block_lt_of_cell? w _ hw103_0)).trans hw103_0), ((HB.out.cell (World.block_lt_of_cell? w _ hw103_1)).trans hw103_1), ((HB.out.cell (World.block_lt_of_cell? w _ hw103_2)).trans hw103_2), ((HB.out.cell (World.block_lt_of_cell? w _ hw104_0)).trans hw104_0), ((HB.out.cell (World.block_lt_of_cell? w _ hw104_1)).trans hw104_1), ((HB.out.cell (World.block_lt_of_cell? w _ hw104_2)).trans hw104_2)⟩ (fun hHeld => ?_)
        clear hK K
        refine norm_ (a' := ?_) ?_ ?_
        rotate_left
        ·
         show Act.put _ (some 7) _ = _
         simp only [Act.put, List.setIfInBounds_toArray, List.set_cons_zero, List.set_cons_succ, i64_w, i32_w]
         rfl
        refine one_ (i := 10) (N := some 6) #[true, true, true, true, true, true, true, true, true, true, true, true, false, false] rfl rfl (one_of HT_.out (by kernel_rfl)) (by decide) (fun K hK => ?_)
        refine box_step ?hg (N := 6) ?hd (cs := #[.int .i64 0, .string (⟨#[]⟩ : ByteArray), .slice none 0 0]) (t := 45) ?hr ?_; (case hd => rfl); (case hg => rfl); (case hr => first | (go_simp; done) | (go_simp; rfl))
        intro gb105 hg w44 hbox hb
        have n0_ := Aside0.mk (blk_below (g := gb101) (o := .cells #[.slice (some ad103) l0_0.length c0_0, .int .i64 a0_1] 24 (0, 0)) (qzz6_) hb)
        have n1_ := Aside0.mk (blk_below (g := gb102) (o := .cells #[.slice (some ad104) l1_0.length c1_0, .int .i64 a1_1] 24 (0, 0)) (qzz7_) hb)
        have n2_ := Aside0.mk (blk_below (g := gb106) (o := .cells #[.int .i64 0, .string (⟨#[]⟩ : ByteArray), .slice none 0 0] 45 (0, 0)) (qzz24_) hb)
        have n3_ := Aside0.mk (below_step (qzz22_) hb)
        have n4_ := Aside0.mk (hbox)
        have n5_ := Aside0.mk ((by rw [hg]; exact (below_size (qzz22_)) : w.heap.size ≤ gb105))
        have n6_ := Aside0.mk ((by rw [hg]; exact (below_size (qzz22_)) : w.heap.size ≤ gb105))
        have n7_ := Aside0.mk ((by rw [hg]; exact Nat.ne_of_lt (blk_lt (g := gb101) (o := .cells #[.slice (some ad103) l0_0.length c0_0, .int .i64 a0_1] 24 (0, 0)) (qzz6_)) : gb101 ≠ gb105))
        have n8_ := Aside0.mk ((by rw [hg]; exact Nat.ne_of_gt (blk_lt (g := gb101) (o := .cells #[.slice (some ad103) l0_0.length c0_0, .int .i64 a0_1] 24 (0, 0)) (qzz6_)) : gb105 ≠ gb101))
        have n9_ := Aside0.mk ((by rw [hg]; exact Nat.ne_of_lt (blk_lt (g := gb102) (o := .cells #[.slice (some ad104) l1_0.length c1_0, .int .i64 a1_1] 24 (0, 0)) (qzz7_)) : gb102 ≠ gb105))
        have n10_ := Aside0.mk ((by rw [hg]; exact Nat.ne_of_gt (blk_lt (g := gb102) (o := .cells #[.slice (some ad104) l1_0.length c1_0, .int .i64 a1_1] 24 (0, 0)) (qzz7_)) : gb105 ≠ gb102))
        have n11_ := Aside0.mk ((by rw [hg]; exact Nat.ne_of_lt (blk_lt (g := gb106) (o := .cells #[.int .i64 0, .string (⟨#[]⟩ : ByteArray), .slice none 0 0] 45 (0, 0)) (qzz24_)) : gb106 ≠ gb105))
        have n12_ := Aside0.mk ((by rw [hg]; exact Nat.ne_of_gt (blk_lt (g := gb106) (o := .cells #[.int .i64 0, .string (⟨#[]⟩ : ByteArray), .slice none 0 0] 45 (0, 0)) (qzz24_)) : gb105 ≠ gb106))
        clear BK101
        clear BK102
        clear BK106
        clear HB
        have BK101 := n0_
        have BK102 := n1_
        have BK106 := n2_
        have HB := n3_
        have BK105 := n4_
        have GW105 := n5_
        have GE105 := n6_
        have NB101_105 := n7_
        have NB105_101 := n8_
        have NB102_105 := n9_
        have NB105_102 := n10_
        have NB106_105 := n11_
        have NB105_106 := n12_
        clear n0_ n1_ n2_ n3_ n4_ n5_ n6_ n7_ n8_ n9_ n10_ n11_ n12_
        clear hb hbox hg
        refine hK.out _ _ ⟨(blk_cell BK101.out 0).trans rfl, (blk_cell BK101.out 1).trans rfl, (blk_cell BK102.out 0).trans rfl, (blk_cell BK102.out 1).trans rfl, ((HB.out.cell (World.block_lt_of_cell? w _ hw103_0)).trans hw103_0), ((HB.out.cell (World.block_lt_of_cell? w _ hw103_1)).trans hw103_1), ((HB.out.cell (World.block_lt_of_cell? w _ hw103_2)).trans hw103_2), ((HB.out.cell (World.block_lt_of_cell? w _ hw104_0)).trans hw104_0), ((HB.out.cell (World.block_lt_of_cell? w _ hw104_1)).trans hw104_1), ((HB.out.cell (World.block_lt_of_cell? w _ hw104_2)).trans hw104_2)⟩ (fun hHeld => ?_)
        clear hK K
        refine norm_ (a' := ?_) ?_ ?_
        rotate_left
        ·
         show Act.put _ (some 6) _ = _
         simp only [Act.put, List.setIfInBounds_toArray, List.set_cons_zero, List.set_cons_succ, i64_w, i32_w]
         rfl
        exact norm_ (qzz28_) (hCont (gb105, gb106) _ ⟨hHeld, (qzz6_), (qzz7_), (qzz25_), (qzz24_), GW105.out, GE105.out, NB101_105.out, NB105_101.out, NB102_105.out, NB105_102.out, NB106_105.out, NB105_106.out, GW106.out, GE106.out, NB101_106.out, NB106_101.out, NB102_106.out, NB106_102.out, (qzz26_)⟩)
      rintro ⟨gb105, gb106⟩ w45 ⟨hS_, h0_, h1_, h2_, h3_, h4_, h5_, h6_, h7_, h8_, h9_, h10_, h11_, h12_, h13_, h14_, h15_, h16_, h17_, h18_⟩
      have n0_ : Aside0 (w45.heap[gb101]? = some (.cells #[.slice (some ad103) l0_0.length c0_0, .int .i64 a0_1] 24 (0, 0))) := ⟨h0_⟩
      have n1_ : Aside0 (w45.heap[gb102]? = some (.cells #[.slice (some ad104) l1_0.length c1_0, .int .i64 a1_1] 24 (0, 0))) := ⟨h1_⟩
      have n2_ : Aside0 (w45.heap[gb105]? = some (.cells #[.int .i64 0, .string (⟨#[]⟩ : ByteArray), .slice none 0 0] 45 (0, 0))) := ⟨h2_⟩
      have n3_ : Aside0 (w45.heap[gb106]? = some (.cells #[.int .i64 0, .string (⟨#[]⟩ : ByteArray), .slice none 0 0] 45 (0, 0))) := ⟨h3_⟩
      have n4_ : Aside0 (w.heap.size ≤ gb105) := ⟨h4_⟩
      have n5_ : Aside0 (w.heap.size ≤ gb105) := ⟨h5_⟩
      have n6_ : Aside0 (gb101 ≠ gb105) := ⟨h6_⟩
      have n7_ : Aside0 (gb105 ≠ gb101) := ⟨h7_⟩
      have n8_ : Aside0 (gb102 ≠ gb105) := ⟨h8_⟩
      have n9_ : Aside0 (gb105 ≠ gb102) := ⟨h9_⟩
      have n10_ : Aside0 (gb106 ≠ gb105) := ⟨h10_⟩
      have n11_ : Aside0 (gb105 ≠ gb106) := ⟨h11_⟩
      have n12_ : Aside0 (w.heap.size ≤ gb106) := ⟨h12_⟩
      have n13_ : Aside0 (w.heap.size ≤ gb106) := ⟨h13_⟩
      have n14_ : Aside0 (gb101 ≠ gb106) := ⟨h14_⟩
      have n15_ : Aside0 (gb106 ≠ gb101) := ⟨h15_⟩
      have n16_ : Aside0 (gb102 ≠ gb106) := ⟨h16_⟩
      have n17_ : Aside0 (gb106 ≠ gb102) := ⟨h17_⟩
      have n18_ : Aside0 (Below w.heap.size w w45) := ⟨h18_⟩
      clear BK101
      clear BK102
      clear HB
      clear h0_ h1_ h2_ h3_ h4_ h5_ h6_ h7_ h8_ h9_ h10_ h11_ h12_ h13_ h14_ h15_ h16_ h17_ h18_
      have BK101 := n0_
      have BK102 := n1_
      have BK105 := n2_
      have BK106 := n3_
      have GW105 := n4_
      have GE105 := n5_
      have NB101_105 := n6_
      have NB105_101 := n7_
      have NB102_105 := n8_
      have NB105_102 := n9_
      have NB106_105 := n10_
      have NB105_106 := n11_
      have GW106 := n12_
      have GE106 := n13_
      have NB101_106 := n14_
      have NB106_101 := n15_
      have NB102_106 := n16_
      have NB106_102 := n17_
      have HB := n18_
      clear n0_ n1_ n2_ n3_ n4_ n5_ n6_ n7_ n8_ n9_ n10_ n11_ n12_ n13_ n14_ n15_ n16_ n17_ n18_
      have hHeld : w45.cell? ⟨gb101, 0, none⟩ = some (.slice (some ad103) l0_0.length c0_0) ∧ w45.cell? ⟨gb101, 1, none⟩ = some (.int .i64 a0_1) ∧ w45.cell? ⟨gb102, 0, none⟩ = some (.slice (some ad104) l1_0.length c1_0) ∧ w45.cell? ⟨gb102, 1, none⟩ = some (.int .i64 a1_1) ∧ w45.cell? (ad103.add ((x5_2).toNat * 3)) = some (.int .i64 ((rd_T45 l0_0 x5_2).f0)) ∧ w45.cell? ⟨(ad103.add ((x5_2).toNat * 3)).block, (ad103.add ((x5_2).toNat * 3)).off + 1, none⟩ = some (.string ((rd_T45 l0_0 x5_2).f1)) ∧ w45.cell? ⟨(ad103.add ((x5_2).toNat * 3)).block, (ad103.add ((x5_2).toNat * 3)).off + 2, none⟩ = some (.slice A103_2 ((rd_T45 l0_0 x5_2).f2).length c103_2) ∧ w45.cell? (ad104.add ((x5_2).toNat * 3)) = some (.int .i64 ((rd_T45 l1_0 x5_2).f0)) ∧ w45.cell? ⟨(ad104.add ((x5_2).toNat * 3)).block, (ad104.add ((x5_2).toNat * 3)).off + 1, none⟩ = some (.string ((rd_T45 l1_0 x5_2).f1)) ∧ w45.cell? ⟨(ad104.add ((x5_2).toNat * 3)).block, (ad104.add ((x5_2).toNat * 3)).off + 2, none⟩ = some (.slice A104_2 ((rd_T45 l1_0 x5_2).f2).length c104_2) := hS_
      refine norm_ (a' := ?_) ?_ ?_
      rotate_left
      exact qzz37_
      refine one_ (i := 12) (N := none) #[true, true, true, true, true, true, true, true, true, true, true, true, true, false] rfl rfl (one_of HT_.out (by kernel_rfl)) (by decide) (fun K hK => ?_)
      have hs46 : w45.cell? ⟨gb105, 0, none⟩ = some (.int .i64 0) := (blk_cell BK105.out 0).trans rfl
      have hfs46 := blk_frozen BK105.out 0
      have hns46_0 := NB101_105.out
      have hns46_1 := NB102_105.out
      have hns46_3 := NB106_105.out
      have hms46_0 := NB105_101.out
      have hms46_1 := NB105_102.out
      have hms46_3 := NB105_106.out
      have hs47 : w45.cell? ⟨gb105, 1, none⟩ = some (.string (⟨#[]⟩ : ByteArray)) := (blk_cell BK105.out 1).trans rfl
      have hfs47 := blk_frozen BK105.out 1
      have hns47_0 := NB101_105.out
      have hns47_1 := NB102_105.out
      have hns47_3 := NB106_105.out
      have hms47_0 := NB105_101.out
      have hms47_1 := NB105_102.out
      have hms47_3 := NB105_106.out
      have hs48 : w45.cell? ⟨gb105, 2, none⟩ = some (.slice none 0 0) := (blk_cell BK105.out 2).trans rfl
      have hfs48 := blk_frozen BK105.out 2
      have hns48_0 := NB101_105.out
      have hns48_1 := NB102_105.out
      have hns48_3 := NB106_105.out
      have hms48_0 := NB105_101.out
      have hms48_1 := NB105_102.out
      have hms48_3 := NB105_106.out
      refine skip_ (w1 := ?_) (by rfl) rfl ?_ ?_
      rotate_left
      exact qzz38_
      refine hK.out _ _ ⟨((cell_far (p := ⟨gb105, _, none⟩) NB101_105.out _).trans (((cell_far (p := ⟨gb105, _, none⟩) NB101_105.out _).trans (((cell_far (p := ⟨gb105, _, none⟩) NB101_105.out _).trans (hHeld.1)))))), ((cell_far (p := ⟨gb105, _, none⟩) NB101_105.out _).trans (((cell_far (p := ⟨gb105, _, none⟩) NB101_105.out _).trans (((cell_far (p := ⟨gb105, _, none⟩) NB101_105.out _).trans (hHeld.2.1)))))), ((cell_far (p := ⟨gb105, _, none⟩) NB102_105.out _).trans (((cell_far (p := ⟨gb105, _, none⟩) NB102_105.out _).trans (((cell_far (p := ⟨gb105, _, none⟩) NB102_105.out _).trans (hHeld.2.2.1)))))), ((cell_far (p := ⟨gb105, _, none⟩) NB102_105.out _).trans (((cell_far (p := ⟨gb105, _, none⟩) NB102_105.out _).trans (((cell_far (p := ⟨gb105, _, none⟩) NB102_105.out _).trans (hHeld.2.2.2.1)))))), ((cell_far (p := ⟨gb105, _, none⟩) (qzz10_) _).trans (((cell_far (p := ⟨gb105, _, none⟩) (qzz10_) _).trans (((cell_far (p := ⟨gb105, _, none⟩) (qzz10_) _).trans (hHeld.2.2.2.2.1)))))), ((cell_far (p := ⟨gb105, _, none⟩) (qzz12_) _).trans (((cell_far (p := ⟨gb105, _, none⟩) (qzz12_) _).trans (((cell_far (p := ⟨gb105, _, none⟩) (qzz12_) _).trans (hHeld.2.2.2.2.2.1)))))), ((cell_far (p := ⟨gb105, _, none⟩) (qzz14_) _).trans (((cell_far (p := ⟨gb105, _, none⟩) (qzz14_) _).trans (((cell_far (p := ⟨gb105, _, none⟩) (qzz14_) _).trans (hHeld.2.2.2.2.2.2.1)))))), ((cell_far (p := ⟨gb105, _, none⟩) (qzz16_) _).trans (((cell_far (p := ⟨gb105, _, none⟩) (qzz16_) _).trans (((cell_far (p := ⟨gb105, _, none⟩) (qzz16_) _).trans (hHeld.2.2.2.2.2.2.2.1)))))), ((cell_far (p := ⟨gb105, _, none⟩) (qzz18_) _).trans (((cell_far (p := ⟨gb105, _, none⟩) (qzz18_) _).trans (((cell_far (p := ⟨gb105, _, none⟩) (qzz18_) _).trans (hHeld.2.2.2.2.2.2.2.2.1)))))), ((cell_far (p := ⟨gb105, _, none⟩) (qzz20_) _).trans (((cell_far (p := ⟨gb105, _, none⟩) (qzz20_) _).trans (((cell_far (p := ⟨gb105, _, none⟩) (qzz20_) _).trans (hHeld.2.2.2.2.2.2.2.2.2))))))⟩ (fun hHeld => ?_)
      clear hK K
      refine one_ (i := 13) (N := none) #[true, true, true, true, true, true, true, true, true, true, true, true, true, true] rfl rfl (one_of HT_.out (by kernel_rfl)) (by decide) (fun K hK => ?_)
      have hs49 : w45.cell? ⟨gb106, 0, none⟩ = some (.int .i64 0) := (blk_cell BK106.out 0).trans rfl
      have hfs49 := blk_frozen BK106.out 0
      have hns49_0 := NB101_106.out
      have hns49_1 := NB102_106.out
      have hns49_2 := NB105_106.out
      have hms49_0 := NB106_101.out
      have hms49_1 := NB106_102.out
      have hms49_2 := NB106_105.out
      have hs50 : w45.cell? ⟨gb106, 1, none⟩ = some (.string (⟨#[]⟩ : ByteArray)) := (blk_cell BK106.out 1).trans rfl
      have hfs50 := blk_frozen BK106.out 1
      have hns50_0 := NB101_106.out
      have hns50_1 := NB102_106.out
      have hns50_2 := NB105_106.out
      have hms50_0 := NB106_101.out
      have hms50_1 := NB106_102.out
      have hms50_2 := NB106_105.out
      have hs51 : w45.cell? ⟨gb106, 2, none⟩ = some (.slice none 0 0) := (blk_cell BK106.out 2).trans rfl
      have hfs51 := blk_frozen BK106.out 2
      have hns51_0 := NB101_106.out
      have hns51_1 := NB102_106.out
      have hns51_2 := NB105_106.out
      have hms51_0 := NB106_101.out
      have hms51_1 := NB106_102.out
      have hms51_2 := NB106_105.out
      refine skip_ (w1 := ?_) (by rfl) rfl ?_ ?_
      rotate_left
      exact qzz38_
      refine hK.out _ _ ⟨((cell_far (p := ⟨gb106, _, none⟩) NB101_106.out _).trans (((cell_far (p := ⟨gb106, _, none⟩) NB101_106.out _).trans (((cell_far (p := ⟨gb106, _, none⟩) NB101_106.out _).trans (hHeld.1)))))), ((cell_far (p := ⟨gb106, _, none⟩) NB101_106.out _).trans (((cell_far (p := ⟨gb106, _, none⟩) NB101_106.out _).trans (((cell_far (p := ⟨gb106, _, none⟩) NB101_106.out _).trans (hHeld.2.1)))))), ((cell_far (p := ⟨gb106, _, none⟩) NB102_106.out _).trans (((cell_far (p := ⟨gb106, _, none⟩) NB102_106.out _).trans (((cell_far (p := ⟨gb106, _, none⟩) NB102_106.out _).trans (hHeld.2.2.1)))))), ((cell_far (p := ⟨gb106, _, none⟩) NB102_106.out _).trans (((cell_far (p := ⟨gb106, _, none⟩) NB102_106.out _).trans (((cell_far (p := ⟨gb106, _, none⟩) NB102_106.out _).trans (hHeld.2.2.2.1)))))), ((cell_far (p := ⟨gb106, _, none⟩) (qzz9_) _).trans (((cell_far (p := ⟨gb106, _, none⟩) (qzz9_) _).trans (((cell_far (p := ⟨gb106, _, none⟩) (qzz9_) _).trans (hHeld.2.2.2.2.1)))))), ((cell_far (p := ⟨gb106, _, none⟩) (qzz11_) _).trans (((cell_far (p := ⟨gb106, _, none⟩) (qzz11_) _).trans (((cell_far (p := ⟨gb106, _, none⟩) (qzz11_) _).trans (hHeld.2.2.2.2.2.1)))))), ((cell_far (p := ⟨gb106, _, none⟩) (qzz13_) _).trans (((cell_far (p := ⟨gb106, _, none⟩) (qzz13_) _).trans (((cell_far (p := ⟨gb106, _, none⟩) (qzz13_) _).trans (hHeld.2.2.2.2.2.2.1)))))), ((cell_far (p := ⟨gb106, _, none⟩) (qzz15_) _).trans (((cell_far (p := ⟨gb106, _, none⟩) (qzz15_) _).trans (((cell_far (p := ⟨gb106, _, none⟩) (qzz15_) _).trans (hHeld.2.2.2.2.2.2.2.1)))))), ((cell_far (p := ⟨gb106, _, none⟩) (qzz17_) _).trans (((cell_far (p := ⟨gb106, _, none⟩) (qzz17_) _).trans (((cell_far (p := ⟨gb106, _, none⟩) (qzz17_) _).trans (hHeld.2.2.2.2.2.2.2.2.1)))))), ((cell_far (p := ⟨gb106, _, none⟩) (qzz19_) _).trans (((cell_far (p := ⟨gb106, _, none⟩) (qzz19_) _).trans (((cell_far (p := ⟨gb106, _, none⟩) (qzz19_) _).trans (hHeld.2.2.2.2.2.2.2.2.2))))))⟩ (fun hHeld => ?_)
      clear hK K
      refine done_ (done_of HT_.out (by kernel_rfl)) ?_
      have hnb52 := NB105_101.out
      have hnc52 := NB101_105.out
      have hnb53 := NB105_102.out
      have hnc53 := NB102_105.out
      have hnb54 := NB105_106.out
      have hnc54 := NB106_105.out
      have hcz55_0 : w45.cell? ⟨gb105, 0, none⟩ = some (.int .i64 0) := (blk_cell BK105.out 0).trans rfl
      have hcz55_1 : w45.cell? ⟨gb105, 1, none⟩ = some (.string (⟨#[]⟩ : ByteArray)) := (blk_cell BK105.out 1).trans rfl
      have hcz55_2 : w45.cell? ⟨gb105, 2, none⟩ = some (.slice none 0 0) := (blk_cell BK105.out 2).trans rfl
      have hfz55_0 := blk_frozen BK105.out 0
      have hfz55_1 := blk_frozen BK105.out 1
      have hfz55_2 := blk_frozen BK105.out 2
      have hnb56 := NB106_101.out
      have hnc56 := NB101_106.out
      have hnb57 := NB106_102.out
      have hnc57 := NB102_106.out
      have hcz58_0 : w45.cell? ⟨gb106, 0, none⟩ = some (.int .i64 0) := (blk_cell BK106.out 0).trans rfl
      have hcz58_1 : w45.cell? ⟨gb106, 1, none⟩ = some (.string (⟨#[]⟩ : ByteArray)) := (blk_cell BK106.out 1).trans rfl
      have hcz58_2 : w45.cell? ⟨gb106, 2, none⟩ = some (.slice none 0 0) := (blk_cell BK106.out 2).trans rfl
      have hfz58_0 := blk_frozen BK106.out 0
      have hfz58_1 := blk_frozen BK106.out 1
      have hfz58_2 := blk_frozen BK106.out 2
      try go_wp2_with (first | (go_at_call 41; (with_reducible refine (grommetref01_Ints.calls k2 _ _ ((rd_T45 l0_0 x5_2).f2) _ _ ((rd_T45 l1_0 x5_2).f2) false _ ?side1 ?side2 ?side3 ?side4 (hG.below (qzz31_)) A19.out).mono ?_); (case side1 => exact Kd.C_below HR103_2.out (qzz21_)); (case side2 => exact HC103_2.out); (case side3 => exact Kd.C_below HR104_2.out (qzz21_)); (case side4 => exact HC104_2.out); rintro e w' ⟨rfl, ⟨nd, rfl⟩⟩))
      go_ret
      exact ⟨qzz29_, qzz21_⟩
     subst c20
     have H1 : (grommetref12_Same.l0 k2 (wrap64 (x5_2 + 1)) l0_0 a0_1 l1_0 a1_1) = some r := by rw [if_pos rfl] at H; exact H
     clear H
     have H := H1
     clear H1
     have H' := Aside0.mk H
     clear H
     have hnb21 := NB101_102.out
     have hnc21 := NB102_101.out
     have hcz22_0 : wr.cell? ⟨gb101, 0, none⟩ = some (.slice A0_0 l0_0.length c0_0) := (blk_cell BK101.out 0).trans rfl
     have hcz22_1 : wr.cell? ⟨gb101, 1, none⟩ = some (.int .i64 a0_1) := (blk_cell BK101.out 1).trans rfl
     have hfz22_0 := blk_frozen BK101.out 0
     have hfz22_1 := blk_frozen BK101.out 1
     try go_wp2
     have n0_ := Aside0.mk (blk_drew BK101.out)
     have n1_ := Aside0.mk (blk_drew BK102.out)
     have n2_ := Aside0.mk (below_drew1 HB.out)
     clear BK101
     clear BK102
     clear HB
     have BK101 := n0_
     have BK102 := n1_
     have HB := n2_
     clear n0_ n1_ n2_
     have p103 : 0 ≤ (x5_2 : Int) := of_decide_eq_true (qzz27_)
     have q103 : x5_2 < (l0_0.length : Int) := of_decide_eq_true (qzz27_)
     obtain ⟨ad103, A103_2, c103_2, e103, hx103_0, hx103_1, hx103_2, hl103_2, hi103_2⟩ := at_T45 HR0_0.out x5_2 p103 q103
     have KX103_2 := Aside0.mk hx103_2
     have hw103_2 := hx103_2
     have hw103_1 := hx103_1
     have hw103_0 := hx103_0
     cases e103
     replace hx103_0 := (HB.out.cell (World.block_lt_of_cell? w _ hx103_0)).trans hx103_0
     replace hx103_1 := (HB.out.cell (World.block_lt_of_cell? w _ hx103_1)).trans hx103_1
     replace hx103_2 := (HB.out.cell (World.block_lt_of_cell? w _ hx103_2)).trans hx103_2
     have HR103_2 := Aside0.mk hi103_2
     have HC103_2 := Aside0.mk hl103_2
     clear hi103_2 hl103_2
     replace p103 := eq_true p103
     replace q103 := eq_true q103
     have p104 : 0 ≤ (x5_2 : Int) := of_decide_eq_true (qzz27_)
     have q104 : x5_2 < (l1_0.length : Int) := of_decide_eq_true (qzz27_)
     obtain ⟨ad104, A104_2, c104_2, e104, hx104_0, hx104_1, hx104_2, hl104_2, hi104_2⟩ := at_T45 HR1_0.out x5_2 p104 q104
     have KX104_2 := Aside0.mk hx104_2
     have hw104_2 := hx104_2
     have hw104_1 := hx104_1
     have hw104_0 := hx104_0
     cases e104
     replace hx104_0 := (HB.out.cell (World.block_lt_of_cell? w _ hx104_0)).trans hx104_0
     replace hx104_1 := (HB.out.cell (World.block_lt_of_cell? w _ hx104_1)).trans hx104_1
     replace hx104_2 := (HB.out.cell (World.block_lt_of_cell? w _ hx104_2)).trans hx104_2
     have HR104_2 := Aside0.mk hi104_2
     have HC104_2 := Aside0.mk hl104_2
     clear hi104_2 hl104_2
     replace p104 := eq_true p104
     replace q104 := eq_true q104
     refine start_ (n := 14) (S := fun w' => w'.cell? ⟨gb101, 0, none⟩ = some (.slice (some ad103) l0_0.length c0_0) ∧ w'.cell? ⟨gb101, 1, none⟩ = some (.int .i64 a0_1) ∧ w'.cell? ⟨gb102, 0, none⟩ = some (.slice (some ad104) l1_0.length c1_0) ∧ w'.cell? ⟨gb102, 1, none⟩ = some (.int .i64 a1_1) ∧ w'.cell? (ad103.add ((x5_2).toNat * 3)) = some (.int .i64 ((rd_T45 l0_0 x5_2).f0)) ∧ w'.cell? ⟨(ad103.add ((x5_2).toNat * 3)).block, (ad103.add ((x5_2).toNat * 3)).off + 1, none⟩ = some (.string ((rd_T45 l0_0 x5_2).f1)) ∧ w'.cell? ⟨(ad103.add ((x5_2).toNat * 3)).block, (ad103.add ((x5_2).toNat * 3)).off + 2, none⟩ = some (.slice A103_2 ((rd_T45 l0_0 x5_2).f2).length c103_2) ∧ w'.cell? (ad104.add ((x5_2).toNat * 3)) = some (.int .i64 ((rd_T45 l1_0 x5_2).f0)) ∧ w'.cell? ⟨(ad104.add ((x5_2).toNat * 3)).block, (ad104.add ((x5_2).toNat * 3)).off + 1, none⟩ = some (.string ((rd_T45 l1_0 x5_2).f1)) ∧ w'.cell? ⟨(ad104.add ((x5_2).toNat * 3)).block, (ad104.add ((x5_2).toNat * 3)).off + 2, none⟩ = some (.slice A104_2 ((rd_T45 l1_0 x5_2).f2).length c104_2)) (ds := []) #[false, false, false, false, false, false, false, false, false, false, false, false, false, false] (by kernel_rfl) rfl rfl ⟨(blk_cell BK101.out 0).trans rfl, (blk_cell BK101.out 1).trans rfl, (blk_cell BK102.out 0).trans rfl, (blk_cell BK102.out 1).trans rfl, ((HB.out.cell (World.block_lt_of_cell? w _ hw103_0)).trans hw103_0), ((HB.out.cell (World.block_lt_of_cell? w _ hw103_1)).trans hw103_1), ((HB.out.cell (World.block_lt_of_cell? w _ hw103_2)).trans hw103_2), ((HB.out.cell (World.block_lt_of_cell? w _ hw104_0)).trans hw104_0), ((HB.out.cell (World.block_lt_of_cell? w _ hw104_1)).trans hw104_1), ((HB.out.cell (World.block_lt_of_cell? w _ hw104_2)).trans hw104_2)⟩ (fun hHeld => ?_); refine with_tabW grommetref12_Same.tab6 grommetref12_Same.bits6 (fun HT_ HW_ => ?_)
     generalize wr.drew = w23 at BK101 BK102 HB HR103_2 HR104_2 hx103_0 hx103_1 hx103_2 hx104_0 hx104_1 hx104_2 hHeld ⊢
     refine pure_ (i := 0) (N := some 29) (v := ?_) (a' := ?_) #[true, false, false, false, false, false, false, false, false, false, false, false, false, false] rfl rfl (any_of HT_.out (by kernel_rfl)) (fun _ _ _ h => h) (Or.inl ⟨by rfl, ?_⟩) ?_ ?_
     rotate_left
     exact qzz34_
     rotate_left
     exact qzz35_
     refine pure_ (i := 2) (N := some 31) (v := ?_) (a' := ?_) #[true, false, true, false, false, false, false, false, false, false, false, false, false, false] rfl rfl (any_of HT_.out (by kernel_rfl)) (fun _ _ _ h => h) (Or.inl ⟨by rfl, ?_⟩) ?_ ?_
     rotate_left
     exact qzz34_
     rotate_left
     exact qzz35_
     refine pure_ (i := 5) (N := some 34) (v := ?_) (a' := ?_) #[true, false, true, false, false, true, false, false, false, false, false, false, false, false] rfl rfl (any_of HT_.out (by kernel_rfl)) (fun _ _ _ h => h) (Or.inl ⟨by rfl, ?_⟩) ?_ ?_
     rotate_left
     exact qzz34_
     rotate_left
     exact qzz35_
     refine pure_ (i := 7) (N := some 36) (v := ?_) (a' := ?_) #[true, false, true, false, false, true, false, true, false, false, false, false, false, false] rfl rfl (any_of HT_.out (by kernel_rfl)) (fun _ _ _ h => h) (Or.inl ⟨by rfl, ?_⟩) ?_ ?_
     rotate_left
     exact qzz34_
     rotate_left
     exact qzz35_
     refine take_ (i := 1) (N := some 30) (v := ?_) (a' := ?_) #[true, true, true, false, false, true, false, true, false, false, false, false, false, false] rfl rfl (take_ofW HT_.out HW_.out (by kernel_rfl)) (fun _ _ _ h => h) (Or.inl ⟨by rfl, ?_⟩) hHeld ?_ ?_
     rotate_left
     exact qzz36_
     rotate_left
     exact qzz35_
     refine pure_ (i := 3) (N := some 32) (v := ?_) (a' := ?_) #[true, true, true, true, false, true, false, true, false, false, false, false, false, false] rfl rfl (any_of HT_.out (by kernel_rfl)) (fun _ _ _ h => h) (Or.inl ⟨by rfl, ?_⟩) ?_ ?_
     rotate_left
     exact qzz34_
     rotate_left
     exact qzz35_
     refine take_ (i := 4) (N := some 33) (v := ?_) (a' := ?_) #[true, true, true, true, true, true, false, true, false, false, false, false, false, false] rfl rfl (take_ofW HT_.out HW_.out (by kernel_rfl)) (fun _ _ _ h => h) (Or.inl ⟨by rfl, ?_⟩) hHeld ?_ ?_
     rotate_left
     exact qzz36_
     rotate_left
     exact qzz35_
     refine take_ (i := 6) (N := some 35) (v := ?_) (a' := ?_) #[true, true, true, true, true, true, true, true, false, false, false, false, false, false] rfl rfl (take_ofW HT_.out HW_.out (by kernel_rfl)) (fun _ _ _ h => h) (Or.inl ⟨by rfl, ?_⟩) hHeld ?_ ?_
     rotate_left
     exact qzz36_
     rotate_left
     exact qzz35_
     refine pure_ (i := 8) (N := some 37) (v := ?_) (a' := ?_) #[true, true, true, true, true, true, true, true, true, false, false, false, false, false] rfl rfl (any_of HT_.out (by kernel_rfl)) (fun _ _ _ h => h) (Or.inl ⟨by rfl, ?_⟩) ?_ ?_
     rotate_left
     exact qzz34_
     rotate_left
     exact qzz35_
     refine take_ (i := 9) (N := some 38) (v := ?_) (a' := ?_) #[true, true, true, true, true, true, true, true, true, true, false, false, false, false] rfl rfl (take_ofW HT_.out HW_.out (by kernel_rfl)) (fun _ _ _ h => h) (Or.inl ⟨by rfl, ?_⟩) hHeld ?_ ?_
     rotate_left
     exact qzz36_
     rotate_left
     exact qzz35_
     refine join_ (σ := Nat × Nat) 2 #[true, true, true, true, true, true, true, true, true, true, true, true, false, false] (fun s_ => [(6, .pointer (some ⟨s_.1, 0, none⟩)), (7, .pointer (some ⟨s_.2, 0, none⟩))]) (fun s_ w' => (w'.cell? ⟨gb101, 0, none⟩ = some (.slice (some ad103) l0_0.length c0_0) ∧ w'.cell? ⟨gb101, 1, none⟩ = some (.int .i64 a0_1) ∧ w'.cell? ⟨gb102, 0, none⟩ = some (.slice (some ad104) l1_0.length c1_0) ∧ w'.cell? ⟨gb102, 1, none⟩ = some (.int .i64 a1_1) ∧ w'.cell? (ad103.add ((x5_2).toNat * 3)) = some (.int .i64 ((rd_T45 l0_0 x5_2).f0)) ∧ w'.cell? ⟨(ad103.add ((x5_2).toNat * 3)).block, (ad103.add ((x5_2).toNat * 3)).off + 1, none⟩ = some (.string ((rd_T45 l0_0 x5_2).f1)) ∧ w'.cell? ⟨(ad103.add ((x5_2).toNat * 3)).block, (ad103.add ((x5_2).toNat * 3)).off + 2, none⟩ = some (.slice A103_2 ((rd_T45 l0_0 x5_2).f2).length c103_2) ∧ w'.cell? (ad104.add ((x5_2).toNat * 3)) = some (.int .i64 ((rd_T45 l1_0 x5_2).f0)) ∧ w'.cell? ⟨(ad104.add ((x5_2).toNat * 3)).block, (ad104.add ((x5_2).toNat * 3)).off + 1, none⟩ = some (.string ((rd_T45 l1_0 x5_2).f1)) ∧ w'.cell? ⟨(ad104.add ((x5_2).toNat * 3)).block, (ad104.add ((x5_2).toNat * 3)).off + 2, none⟩ = some (.slice A104_2 ((rd_T45 l1_0 x5_2).f2).length c104_2)) ∧ (w'.heap[gb101]? = some (.cells #[.slice (some ad103) l0_0.length c0_0, .int .i64 a0_1] 24 (0, 0))) ∧ (w'.heap[gb102]? = some (.cells #[.slice (some ad104) l1_0.length c1_0, .int .i64 a1_1] 24 (0, 0))) ∧ (w'.heap[s_.1]? = some (.cells #[.int .i64 0, .string (⟨#[]⟩ : ByteArray), .slice none 0 0] 45 (0, 0))) ∧ (w'.heap[s_.2]? = some (.cells #[.int .i64 0, .string (⟨#[]⟩ : ByteArray), .slice none 0 0] 45 (0, 0))) ∧ (w.heap.size ≤ s_.1) ∧ (w.heap.size ≤ s_.1) ∧ (gb101 ≠ s_.1) ∧ (s_.1 ≠ gb101) ∧ (gb102 ≠ s_.1) ∧ (s_.1 ≠ gb102) ∧ (s_.2 ≠ s_.1) ∧ (s_.1 ≠ s_.2) ∧ (w.heap.size ≤ s_.2) ∧ (w.heap.size ≤ s_.2) ∧ (gb101 ≠ s_.2) ∧ (s_.2 ≠ gb101) ∧ (gb102 ≠ s_.2) ∧ (s_.2 ≠ gb102) ∧ (Below w.heap.size w w')) ?_ ?_
     rotate_left
     ·
      intro hCont
      refine two_ (i := 10) (j := 11) (Ni := some 6) (Nj := some 7) #[true, true, true, true, true, true, true, true, true, true, true, false, false, false] #[true, true, true, true, true, true, true, true, true, true, false, true, false, false] rfl rfl rfl rfl (two_of HT_.out (by kernel_rfl)) (by decide) (by decide) (fun K hK => ?_) (fun K hK => ?_)
      ·
       skip
       refine box_step ?hg (N := 6) ?hd (cs := #[.int .i64 0, .string (⟨#[]⟩ : ByteArray), .slice none 0 0]) (t := 45) ?hr ?_; (case hd => rfl); (case hg => rfl); (case hr => first | (go_simp; done) | (go_simp; rfl))
       intro gb105 hg w24 hbox hb
       have n0_ := Aside0.mk (blk_below (g := gb101) (o := .cells #[.slice (some ad103) l0_0.length c0_0, .int .i64 a0_1] 24 (0, 0)) (qzz6_) hb)
       have n1_ := Aside0.mk (blk_below (g := gb102) (o := .cells #[.slice (some ad104) l1_0.length c1_0, .int .i64 a1_1] 24 (0, 0)) (qzz7_) hb)
       have n2_ := Aside0.mk (below_step (qzz8_) hb)
       have n3_ := Aside0.mk (hbox)
       have n4_ := Aside0.mk ((by rw [hg]; exact (below_size (qzz8_)) : w.heap.size ≤ gb105))
       have n5_ := Aside0.mk ((by rw [hg]; exact (below_size (qzz8_)) : w.heap.size ≤ gb105))
       have n6_ := Aside0.mk ((by rw [hg]; exact Nat.ne_of_lt (blk_lt (g := gb101) (o := .cells #[.slice (some ad103) l0_0.length c0_0, .int .i64 a0_1] 24 (0, 0)) (qzz6_)) : gb101 ≠ gb105))
       have n7_ := Aside0.mk ((by rw [hg]; exact Nat.ne_of_gt (blk_lt (g := gb101) (o := .cells #[.slice (some ad103) l0_0.length c0_0, .int .i64 a0_1] 24 (0, 0)) (qzz6_)) : gb105 ≠ gb101))
       have n8_ := Aside0.mk ((by rw [hg]; exact Nat.ne_of_lt (blk_lt (g := gb102) (o := .cells #[.slice (some ad104) l1_0.length c1_0, .int .i64 a1_1] 24 (0, 0)) (qzz7_)) : gb102 ≠ gb105))
       have n9_ := Aside0.mk ((by rw [hg]; exact Nat.ne_of_gt (blk_lt (g := gb102) (o := .cells #[.slice (some ad104) l1_0.length c1_0, .int .i64 a1_1] 24 (0, 0)) (qzz7_)) : gb105 ≠ gb102))
       clear BK101
       clear BK102
       clear HB
       have BK101 := n0_
       have BK102 := n1_
       have HB := n2_
       have BK105 := n3_
       have GW105 := n4_
       have GE105 := n5_
       have NB101_105 := n6_
       have NB105_101 := n7_
       have NB102_105 := n8_
       have NB105_102 := n9_
       clear n0_ n1_ n2_ n3_ n4_ n5_ n6_ n7_ n8_ n9_
       clear hb hbox hg
       refine hK.out _ _ ⟨(blk_cell BK101.out 0).trans rfl, (blk_cell BK101.out 1).trans rfl, (blk_cell BK102.out 0).trans rfl, (blk_cell BK102.out 1).trans rfl, ((HB.out.cell (World.block_lt_of_cell? w _ hw103_0)).trans hw103_0), ((HB.out.cell (World.block_lt_of_cell? w _ hw103_1)).trans hw103_1), ((HB.out.cell (World.block_lt_of_cell? w _ hw103_2)).trans hw103_2), ((HB.out.cell (World.block_lt_of_cell? w _ hw104_0)).trans hw104_0), ((HB.out.cell (World.block_lt_of_cell? w _ hw104_1)).trans hw104_1), ((HB.out.cell (World.block_lt_of_cell? w _ hw104_2)).trans hw104_2)⟩ (fun hHeld => ?_)
       clear hK K
       refine norm_ (a' := ?_) ?_ ?_
       rotate_left
       ·
        show Act.put _ (some 6) _ = _
        simp only [Act.put, List.setIfInBounds_toArray, List.set_cons_zero, List.set_cons_succ, i64_w, i32_w]
        rfl
       refine one_ (i := 11) (N := some 7) #[true, true, true, true, true, true, true, true, true, true, true, true, false, false] rfl rfl (one_of HT_.out (by kernel_rfl)) (by decide) (fun K hK => ?_)
       refine box_step ?hg (N := 7) ?hd (cs := #[.int .i64 0, .string (⟨#[]⟩ : ByteArray), .slice none 0 0]) (t := 45) ?hr ?_; (case hd => rfl); (case hg => rfl); (case hr => first | (go_simp; done) | (go_simp; rfl))
       intro gb106 hg w25 hbox hb
       have n0_ := Aside0.mk (blk_below (g := gb101) (o := .cells #[.slice (some ad103) l0_0.length c0_0, .int .i64 a0_1] 24 (0, 0)) (qzz6_) hb)
       have n1_ := Aside0.mk (blk_below (g := gb102) (o := .cells #[.slice (some ad104) l1_0.length c1_0, .int .i64 a1_1] 24 (0, 0)) (qzz7_) hb)
       have n2_ := Aside0.mk (blk_below (g := gb105) (o := .cells #[.int .i64 0, .string (⟨#[]⟩ : ByteArray), .slice none 0 0] 45 (0, 0)) (qzz25_) hb)
       have n3_ := Aside0.mk (below_step (qzz23_) hb)
       have n4_ := Aside0.mk (hbox)
       have n5_ := Aside0.mk ((by rw [hg]; exact (below_size (qzz23_)) : w.heap.size ≤ gb106))
       have n6_ := Aside0.mk ((by rw [hg]; exact (below_size (qzz23_)) : w.heap.size ≤ gb106))
       have n7_ := Aside0.mk ((by rw [hg]; exact Nat.ne_of_lt (blk_lt (g := gb101) (o := .cells #[.slice (some ad103) l0_0.length c0_0, .int .i64 a0_1] 24 (0, 0)) (qzz6_)) : gb101 ≠ gb106))
       have n8_ := Aside0.mk ((by rw [hg]; exact Nat.ne_of_gt (blk_lt (g := gb101) (o := .cells #[.slice (some ad103) l0_0.length c0_0, .int .i64 a0_1] 24 (0, 0)) (qzz6_)) : gb106 ≠ gb101))
       have n9_ := Aside0.mk ((by rw [hg]; exact Nat.ne_of_lt (blk_lt (g := gb102) (o := .cells #[.slice (some ad104) l1_0.length c1_0, .int .i64 a1_1] 24 (0, 0)) (qzz7_)) : gb102 ≠ gb106))
       have n10_ := Aside0.mk ((by rw [hg]; exact Nat.ne_of_gt (blk_lt (g := gb102) (o := .cells #[.slice (some ad104) l1_0.length c1_0, .int .i64 a1_1] 24 (0, 0)) (qzz7_)) : gb106 ≠ gb102))
       have n11_ := Aside0.mk ((by rw [hg]; exact Nat.ne_of_lt (blk_lt (g := gb105) (o := .cells #[.int .i64 0, .string (⟨#[]⟩ : ByteArray), .slice none 0 0] 45 (0, 0)) (qzz25_)) : gb105 ≠ gb106))
       have n12_ := Aside0.mk ((by rw [hg]; exact Nat.ne_of_gt (blk_lt (g := gb105) (o := .cells #[.int .i64 0, .string (⟨#[]⟩ : ByteArray), .slice none 0 0] 45 (0, 0)) (qzz25_)) : gb106 ≠ gb105))
       clear BK101
       clear BK102
       clear BK105
       clear HB
       have BK101 := n0_
       have BK102 := n1_
       have BK105 := n2_
       have HB := n3_
       have BK106 := n4_
       have GW106 := n5_
       have GE106 := n6_
       have NB101_106 := n7_
       have NB106_101 := n8_
       have NB102_106 := n9_
       have NB106_102 := n10_
       have NB105_106 := n11_
       have NB106_105 := n12_
       clear n0_ n1_ n2_ n3_ n4_ n5_ n6_ n7_ n8_ n9_ n10_ n11_ n12_
       clear hb hbox hg
       refine hK.out _ _ ⟨(blk_cell BK101.out 0).trans rfl, (blk_cell BK101.out 1).trans rfl, (blk_cell BK102.out 0).trans rfl, (blk_cell BK102.out 1).trans rfl, ((HB.out.cell (World.block_lt_of_cell? w _ hw103_0)).trans hw103_0), ((HB.out.cell (World.block_lt_of_cell? w _ hw103_1)).trans hw103_1), ((HB.out.cell (World.block_lt_of_cell? w _ hw103_2)).trans hw103_2), ((HB.out.cell (World.block_lt_of_cell? w _ hw104_0)).trans hw104_0), ((HB.out.cell (World.block_lt_of_cell? w _ hw104_1)).trans hw104_1), ((HB.out.cell (World.block_lt_of_cell? w _ hw104_2)).trans hw104_2)⟩ (fun hHeld => ?_)
       clear hK K
       refine norm_ (a' := ?_) ?_ ?_
       rotate_left
       ·
        show Act.put _ (some 7) _ = _
        simp only [Act.put, List.setIfInBounds_toArray, List.set_cons_zero, List.set_cons_succ, i64_w, i32_w]
        rfl
       exact norm_ (qzz28_) (hCont (gb105, gb106) _ ⟨hHeld, (qzz6_), (qzz7_), (qzz25_), (qzz24_), GW105.out, GE105.out, NB101_105.out, NB105_101.out, NB102_105.out, NB105_102.out, NB106_105.out, NB105_106.out, GW106.out, GE106.out, NB101_106.out, NB106_101.out, NB102_106.out, NB106_102.out, (qzz21_)⟩)
      ·
       skip
       refine box_step ?hg (N := 7) ?hd (cs := #[.int .i64 0, .string (⟨#[]⟩ : ByteArray), .slice none 0 0]) (t := 45) ?hr ?_; (case hd => rfl); (case hg => rfl); (case hr => first | (go_simp; done) | (go_simp; rfl))
       intro gb106 hg w24 hbox hb
       have n0_ := Aside0.mk (blk_below (g := gb101) (o := .cells #[.slice (some ad103) l0_0.length c0_0, .int .i64 a0_1] 24 (0, 0)) (qzz6_) hb)
       have n1_ := Aside0.mk (blk_below (g := gb102) (o := .cells #[.slice (some ad104) l1_0.length c1_0, .int .i64 a1_1] 24 (0, 0)) (qzz7_) hb)
       have n2_ := Aside0.mk (below_step (qzz8_) hb)
       have n3_ := Aside0.mk (hbox)
       have n4_ := Aside0.mk ((by rw [hg]; exact (below_size (qzz8_)) : w.heap.size ≤ gb106))
       have n5_ := Aside0.mk ((by rw [hg]; exact (below_size (qzz8_)) : w.heap.size ≤ gb106))
       have n6_ := Aside0.mk ((by rw [hg]; exact Nat.ne_of_lt (blk_lt (g := gb101) (o := .cells #[.slice (some ad103) l0_0.length c0_0, .int .i64 a0_1] 24 (0, 0)) (qzz6_)) : gb101 ≠ gb106))
       have n7_ := Aside0.mk ((by rw [hg]; exact Nat.ne_of_gt (blk_lt (g := gb101) (o := .cells #[.slice (some ad103) l0_0.length c0_0, .int .i64 a0_1] 24 (0, 0)) (qzz6_)) : gb106 ≠ gb101))
       have n8_ := Aside0.mk ((by rw [hg]; exact Nat.ne_of_lt (blk_lt (g := gb102) (o := .cells #[.slice (some ad104) l1_0.length c1_0, .int .i64 a1_1] 24 (0, 0)) (qzz7_)) : gb102 ≠ gb106))
       have n9_ := Aside0.mk ((by rw [hg]; exact Nat.ne_of_gt (blk_lt (g := gb102) (o := .cells #[.slice (some ad104) l1_0.length c1_0, .int .i64 a1_1] 24 (0, 0)) (qzz7_)) : gb106 ≠ gb102))
       clear BK101
       clear BK102
       clear HB
       have BK101 := n0_
       have BK102 := n1_
       have HB := n2_
       have BK106 := n3_
       have GW106 := n4_
       have GE106 := n5_
       have NB101_106 := n6_
       have NB106_101 := n7_
       have NB102_106 := n8_
       have NB106_102 := n9_
       clear n0_ n1_ n2_ n3_ n4_ n5_ n6_ n7_ n8_ n9_
       clear hb hbox hg
       refine hK.out _ _ ⟨(blk_cell BK101.out 0).trans rfl, (blk_cell BK101.out 1).trans rfl, (blk_cell BK102.out 0).trans rfl, (blk_cell BK102.out 1).trans rfl, ((HB.out.cell (World.block_lt_of_cell? w _ hw103_0)).trans hw103_0), ((HB.out.cell (World.block_lt_of_cell? w _ hw103_1)).trans hw103_1), ((HB.out.cell (World.block_lt_of_cell? w _ hw103_2)).trans hw103_2), ((HB.out.cell (World.block_lt_of_cell? w _ hw104_0)).trans hw104_0), ((HB.out.cell (World.block_lt_of_cell? w _ hw104_1)).trans hw104_1), ((HB.out.cell (World.block_lt_of_cell? w _ hw104_2)).trans hw104_2)⟩ (fun hHeld => ?_)
       clear hK K
       refine norm_ (a' := ?_) ?_ ?_
       rotate_left
       ·
        show Act.put _ (some 7) _ = _
        simp only [Act.put, List.setIfInBounds_toArray, List.set_cons_zero, List.set_cons_succ, i64_w, i32_w]
        rfl
       refine one_ (i := 10) (N := some 6) #[true, true, true, true, true, true, true, true, true, true, true, true, false, false] rfl rfl (one_of HT_.out (by kernel_rfl)) (by decide) (fun K hK => ?_)
       refine box_step ?hg (N := 6) ?hd (cs := #[.int .i64 0, .string (⟨#[]⟩ : ByteArray), .slice none 0 0]) (t := 45) ?hr ?_; (case hd => rfl); (case hg => rfl); (case hr => first | (go_simp; done) | (go_simp; rfl))
       intro gb105 hg w25 hbox hb
       have n0_ := Aside0.mk (blk_below (g := gb101) (o := .cells #[.slice (some ad103) l0_0.length c0_0, .int .i64 a0_1] 24 (0, 0)) (qzz6_) hb)
       have n1_ := Aside0.mk (blk_below (g := gb102) (o := .cells #[.slice (some ad104) l1_0.length c1_0, .int .i64 a1_1] 24 (0, 0)) (qzz7_) hb)
       have n2_ := Aside0.mk (blk_below (g := gb106) (o := .cells #[.int .i64 0, .string (⟨#[]⟩ : ByteArray), .slice none 0 0] 45 (0, 0)) (qzz24_) hb)
       have n3_ := Aside0.mk (below_step (qzz22_) hb)
       have n4_ := Aside0.mk (hbox)
       have n5_ := Aside0.mk ((by rw [hg]; exact (below_size (qzz22_)) : w.heap.size ≤ gb105))
       have n6_ := Aside0.mk ((by rw [hg]; exact (below_size (qzz22_)) : w.heap.size ≤ gb105))
       have n7_ := Aside0.mk ((by rw [hg]; exact Nat.ne_of_lt (blk_lt (g := gb101) (o := .cells #[.slice (some ad103) l0_0.length c0_0, .int .i64 a0_1] 24 (0, 0)) (qzz6_)) : gb101 ≠ gb105))
       have n8_ := Aside0.mk ((by rw [hg]; exact Nat.ne_of_gt (blk_lt (g := gb101) (o := .cells #[.slice (some ad103) l0_0.length c0_0, .int .i64 a0_1] 24 (0, 0)) (qzz6_)) : gb105 ≠ gb101))
       have n9_ := Aside0.mk ((by rw [hg]; exact Nat.ne_of_lt (blk_lt (g := gb102) (o := .cells #[.slice (some ad104) l1_0.length c1_0, .int .i64 a1_1] 24 (0, 0)) (qzz7_)) : gb102 ≠ gb105))
       have n10_ := Aside0.mk ((by rw [hg]; exact Nat.ne_of_gt (blk_lt (g := gb102) (o := .cells #[.slice (some ad104) l1_0.length c1_0, .int .i64 a1_1] 24 (0, 0)) (qzz7_)) : gb105 ≠ gb102))
       have n11_ := Aside0.mk ((by rw [hg]; exact Nat.ne_of_lt (blk_lt (g := gb106) (o := .cells #[.int .i64 0, .string (⟨#[]⟩ : ByteArray), .slice none 0 0] 45 (0, 0)) (qzz24_)) : gb106 ≠ gb105))
       have n12_ := Aside0.mk ((by rw [hg]; exact Nat.ne_of_gt (blk_lt (g := gb106) (o := .cells #[.int .i64 0, .string (⟨#[]⟩ : ByteArray), .slice none 0 0] 45 (0, 0)) (qzz24_)) : gb105 ≠ gb106))
       clear BK101
       clear BK102
       clear BK106
       clear HB
       have BK101 := n0_
       have BK102 := n1_
       have BK106 := n2_
       have HB := n3_
       have BK105 := n4_
       have GW105 := n5_
       have GE105 := n6_
       have NB101_105 := n7_
       have NB105_101 := n8_
       have NB102_105 := n9_
       have NB105_102 := n10_
       have NB106_105 := n11_
       have NB105_106 := n12_
       clear n0_ n1_ n2_ n3_ n4_ n5_ n6_ n7_ n8_ n9_ n10_ n11_ n12_
       clear hb hbox hg
       refine hK.out _ _ ⟨(blk_cell BK101.out 0).trans rfl, (blk_cell BK101.out 1).trans rfl, (blk_cell BK102.out 0).trans rfl, (blk_cell BK102.out 1).trans rfl, ((HB.out.cell (World.block_lt_of_cell? w _ hw103_0)).trans hw103_0), ((HB.out.cell (World.block_lt_of_cell? w _ hw103_1)).trans hw103_1), ((HB.out.cell (World.block_lt_of_cell? w _ hw103_2)).trans hw103_2), ((HB.out.cell (World.block_lt_of_cell? w _ hw104_0)).trans hw104_0), ((HB.out.cell (World.block_lt_of_cell? w _ hw104_1)).trans hw104_1), ((HB.out.cell (World.block_lt_of_cell? w _ hw104_2)).trans hw104_2)⟩ (fun hHeld => ?_)
       clear hK K
       refine norm_ (a' := ?_) ?_ ?_
       rotate_left
       ·
        show Act.put _ (some 6) _ = _
        simp only [Act.put, List.setIfInBounds_toArray, List.set_cons_zero, List.set_cons_succ, i64_w, i32_w]
        rfl
       exact norm_ (qzz28_) (hCont (gb105, gb106) _ ⟨hHeld, (qzz6_), (qzz7_), (qzz25_), (qzz24_), GW105.out, GE105.out, NB101_105.out, NB105_101.out, NB102_105.out, NB105_102.out, NB106_105.out, NB105_106.out, GW106.out, GE106.out, NB101_106.out, NB106_101.out, NB102_106.out, NB106_102.out, (qzz26_)⟩)
     rintro ⟨gb105, gb106⟩ w26 ⟨hS_, h0_, h1_, h2_, h3_, h4_, h5_, h6_, h7_, h8_, h9_, h10_, h11_, h12_, h13_, h14_, h15_, h16_, h17_, h18_⟩
     have n0_ : Aside0 (w26.heap[gb101]? = some (.cells #[.slice (some ad103) l0_0.length c0_0, .int .i64 a0_1] 24 (0, 0))) := ⟨h0_⟩
     have n1_ : Aside0 (w26.heap[gb102]? = some (.cells #[.slice (some ad104) l1_0.length c1_0, .int .i64 a1_1] 24 (0, 0))) := ⟨h1_⟩
     have n2_ : Aside0 (w26.heap[gb105]? = some (.cells #[.int .i64 0, .string (⟨#[]⟩ : ByteArray), .slice none 0 0] 45 (0, 0))) := ⟨h2_⟩
     have n3_ : Aside0 (w26.heap[gb106]? = some (.cells #[.int .i64 0, .string (⟨#[]⟩ : ByteArray), .slice none 0 0] 45 (0, 0))) := ⟨h3_⟩
     have n4_ : Aside0 (w.heap.size ≤ gb105) := ⟨h4_⟩
     have n5_ : Aside0 (w.heap.size ≤ gb105) := ⟨h5_⟩
     have n6_ : Aside0 (gb101 ≠ gb105) := ⟨h6_⟩
     have n7_ : Aside0 (gb105 ≠ gb101) := ⟨h7_⟩
     have n8_ : Aside0 (gb102 ≠ gb105) := ⟨h8_⟩
     have n9_ : Aside0 (gb105 ≠ gb102) := ⟨h9_⟩
     have n10_ : Aside0 (gb106 ≠ gb105) := ⟨h10_⟩
     have n11_ : Aside0 (gb105 ≠ gb106) := ⟨h11_⟩
     have n12_ : Aside0 (w.heap.size ≤ gb106) := ⟨h12_⟩
     have n13_ : Aside0 (w.heap.size ≤ gb106) := ⟨h13_⟩
     have n14_ : Aside0 (gb101 ≠ gb106) := ⟨h14_⟩
     have n15_ : Aside0 (gb106 ≠ gb101) := ⟨h15_⟩
     have n16_ : Aside0 (gb102 ≠ gb106) := ⟨h16_⟩
     have n17_ : Aside0 (gb106 ≠ gb102) := ⟨h17_⟩
     have n18_ : Aside0 (Below w.heap.size w w26) := ⟨h18_⟩
     clear BK101
     clear BK102
     clear HB
     clear h0_ h1_ h2_ h3_ h4_ h5_ h6_ h7_ h8_ h9_ h10_ h11_ h12_ h13_ h14_ h15_ h16_ h17_ h18_
     have BK101 := n0_
     have BK102 := n1_
     have BK105 := n2_
     have BK106 := n3_
     have GW105 := n4_
     have GE105 := n5_
     have NB101_105 := n6_
     have NB105_101 := n7_
     have NB102_105 := n8_
     have NB105_102 := n9_
     have NB106_105 := n10_
     have NB105_106 := n11_
     have GW106 := n12_
     have GE106 := n13_
     have NB101_106 := n14_
     have NB106_101 := n15_
     have NB102_106 := n16_
     have NB106_102 := n17_
     have HB := n18_
     clear n0_ n1_ n2_ n3_ n4_ n5_ n6_ n7_ n8_ n9_ n10_ n11_ n12_ n13_ n14_ n15_ n16_ n17_ n18_
     have hHeld : w26.cell? ⟨gb101, 0, none⟩ = some (.slice (some ad103) l0_0.length c0_0) ∧ w26.cell? ⟨gb101, 1, none⟩ = some (.int .i64 a0_1) ∧ w26.cell? ⟨gb102, 0, none⟩ = some (.slice (some ad104) l1_0.length c1_0) ∧ w26.cell? ⟨gb102, 1, none⟩ = some (.int .i64 a1_1) ∧ w26.cell? (ad103.add ((x5_2).toNat * 3)) = some (.int .i64 ((rd_T45 l0_0 x5_2).f0)) ∧ w26.cell? ⟨(ad103.add ((x5_2).toNat * 3)).block, (ad103.add ((x5_2).toNat * 3)).off + 1, none⟩ = some (.string ((rd_T45 l0_0 x5_2).f1)) ∧ w26.cell? ⟨(ad103.add ((x5_2).toNat * 3)).block, (ad103.add ((x5_2).toNat * 3)).off + 2, none⟩ = some (.slice A103_2 ((rd_T45 l0_0 x5_2).f2).length c103_2) ∧ w26.cell? (ad104.add ((x5_2).toNat * 3)) = some (.int .i64 ((rd_T45 l1_0 x5_2).f0)) ∧ w26.cell? ⟨(ad104.add ((x5_2).toNat * 3)).block, (ad104.add ((x5_2).toNat * 3)).off + 1, none⟩ = some (.string ((rd_T45 l1_0 x5_2).f1)) ∧ w26.cell? ⟨(ad104.add ((x5_2).toNat * 3)).block, (ad104.add ((x5_2).toNat * 3)).off + 2, none⟩ = some (.slice A104_2 ((rd_T45 l1_0 x5_2).f2).length c104_2) := hS_
     refine norm_ (a' := ?_) ?_ ?_
     rotate_left
     exact qzz37_
     refine one_ (i := 12) (N := none) #[true, true, true, true, true, true, true, true, true, true, true, true, true, false] rfl rfl (one_of HT_.out (by kernel_rfl)) (by decide) (fun K hK => ?_)
     have hs27 : w26.cell? ⟨gb105, 0, none⟩ = some (.int .i64 0) := (blk_cell BK105.out 0).trans rfl
     have hfs27 := blk_frozen BK105.out 0
     have hns27_0 := NB101_105.out
     have hns27_1 := NB102_105.out
     have hns27_3 := NB106_105.out
     have hms27_0 := NB105_101.out
     have hms27_1 := NB105_102.out
     have hms27_3 := NB105_106.out
     have hs28 : w26.cell? ⟨gb105, 1, none⟩ = some (.string (⟨#[]⟩ : ByteArray)) := (blk_cell BK105.out 1).trans rfl
     have hfs28 := blk_frozen BK105.out 1
     have hns28_0 := NB101_105.out
     have hns28_1 := NB102_105.out
     have hns28_3 := NB106_105.out
     have hms28_0 := NB105_101.out
     have hms28_1 := NB105_102.out
     have hms28_3 := NB105_106.out
     have hs29 : w26.cell? ⟨gb105, 2, none⟩ = some (.slice none 0 0) := (blk_cell BK105.out 2).trans rfl
     have hfs29 := blk_frozen BK105.out 2
     have hns29_0 := NB101_105.out
     have hns29_1 := NB102_105.out
     have hns29_3 := NB106_105.out
     have hms29_0 := NB105_101.out
     have hms29_1 := NB105_102.out
     have hms29_3 := NB105_106.out
     refine skip_ (w1 := ?_) (by rfl) rfl ?_ ?_
     rotate_left
     exact qzz38_
     refine hK.out _ _ ⟨((cell_far (p := ⟨gb105, _, none⟩) NB101_105.out _).trans (((cell_far (p := ⟨gb105, _, none⟩) NB101_105.out _).trans (((cell_far (p := ⟨gb105, _, none⟩) NB101_105.out _).trans (hHeld.1)))))), ((cell_far (p := ⟨gb105, _, none⟩) NB101_105.out _).trans (((cell_far (p := ⟨gb105, _, none⟩) NB101_105.out _).trans (((cell_far (p := ⟨gb105, _, none⟩) NB101_105.out _).trans (hHeld.2.1)))))), ((cell_far (p := ⟨gb105, _, none⟩) NB102_105.out _).trans (((cell_far (p := ⟨gb105, _, none⟩) NB102_105.out _).trans (((cell_far (p := ⟨gb105, _, none⟩) NB102_105.out _).trans (hHeld.2.2.1)))))), ((cell_far (p := ⟨gb105, _, none⟩) NB102_105.out _).trans (((cell_far (p := ⟨gb105, _, none⟩) NB102_105.out _).trans (((cell_far (p := ⟨gb105, _, none⟩) NB102_105.out _).trans (hHeld.2.2.2.1)))))), ((cell_far (p := ⟨gb105, _, none⟩) (qzz10_) _).trans (((cell_far (p := ⟨gb105, _, none⟩) (qzz10_) _).trans (((cell_far (p := ⟨gb105, _, none⟩) (qzz10_) _).trans (hHeld.2.2.2.2.1)))))), ((cell_far (p := ⟨gb105, _, none⟩) (qzz12_) _).trans (((cell_far (p := ⟨gb105, _, none⟩) (qzz12_) _).trans (((cell_far (p := ⟨gb105, _, none⟩) (qzz12_) _).trans (hHeld.2.2.2.2.2.1)))))), ((cell_far (p := ⟨gb105, _, none⟩) (qzz14_) _).trans (((cell_far (p := ⟨gb105, _, none⟩) (qzz14_) _).trans (((cell_far (p := ⟨gb105, _, none⟩) (qzz14_) _).trans (hHeld.2.2.2.2.2.2.1)))))), ((cell_far (p := ⟨gb105, _, none⟩) (qzz16_) _).trans (((cell_far (p := ⟨gb105, _, none⟩) (qzz16_) _).trans (((cell_far (p := ⟨gb105, _, none⟩) (qzz16_) _).trans (hHeld.2.2.2.2.2.2.2.1)))))), ((cell_far (p := ⟨gb105, _, none⟩) (qzz18_) _).trans (((cell_far (p := ⟨gb105, _, none⟩) (qzz18_) _).trans (((cell_far (p := ⟨gb105, _, none⟩) (qzz18_) _).trans (hHeld.2.2.2.2.2.2.2.2.1)))))), ((cell_far (p := ⟨gb105, _, none⟩) (qzz20_) _).trans (((cell_far (p := ⟨gb105, _, none⟩) (qzz20_) _).trans (((cell_far (p := ⟨gb105, _, none⟩) (qzz20_) _).trans (hHeld.2.2.2.2.2.2.2.2.2))))))⟩ (fun hHeld => ?_)
     clear hK K
     refine one_ (i := 13) (N := none) #[true, true, true, true, true, true, true, true, true, true, true, true, true, true] rfl rfl (one_of HT_.out (by kernel_rfl)) (by decide) (fun K hK => ?_)
     have hs30 : w26.cell? ⟨gb106, 0, none⟩ = some (.int .i64 0) := (blk_cell BK106.out 0).trans rfl
     have hfs30 := blk_frozen BK106.out 0
     have hns30_0 := NB101_106.out
     have hns30_1 := NB102_106.out
     have hns30_2 := NB105_106.out
     have hms30_0 := NB106_101.out
     have hms30_1 := NB106_102.out
     have hms30_2 := NB106_105.out
     have hs31 : w26.cell? ⟨gb106, 1, none⟩ = some (.string (⟨#[]⟩ : ByteArray)) := (blk_cell BK106.out 1).trans rfl
     have hfs31 := blk_frozen BK106.out 1
     have hns31_0 := NB101_106.out
     have hns31_1 := NB102_106.out
     have hns31_2 := NB105_106.out
     have hms31_0 := NB106_101.out
     have hms31_1 := NB106_102.out
     have hms31_2 := NB106_105.out
     have hs32 : w26.cell? ⟨gb106, 2, none⟩ = some (.slice none 0 0) := (blk_cell BK106.out 2).trans rfl
     have hfs32 := blk_frozen BK106.out 2
     have hns32_0 := NB101_106.out
     have hns32_1 := NB102_106.out
     have hns32_2 := NB105_106.out
     have hms32_0 := NB106_101.out
     have hms32_1 := NB106_102.out
     have hms32_2 := NB106_105.out
     refine skip_ (w1 := ?_) (by rfl) rfl ?_ ?_
     rotate_left
     exact qzz38_
     refine hK.out _ _ ⟨((cell_far (p := ⟨gb106, _, none⟩) NB101_106.out _).trans (((cell_far (p := ⟨gb106, _, none⟩) NB101_106.out _).trans (((cell_far (p := ⟨gb106, _, none⟩) NB101_106.out _).trans (hHeld.1)))))), ((cell_far (p := ⟨gb106, _, none⟩) NB101_106.out _).trans (((cell_far (p := ⟨gb106, _, none⟩) NB101_106.out _).trans (((cell_far (p := ⟨gb106, _, none⟩) NB101_106.out _).trans (hHeld.2.1)))))), ((cell_far (p := ⟨gb106, _, none⟩) NB102_106.out _).trans (((cell_far (p := ⟨gb106, _, none⟩) NB102_106.out _).trans (((cell_far (p := ⟨gb106, _, none⟩) NB102_106.out _).trans (hHeld.2.2.1)))))), ((cell_far (p := ⟨gb106, _, none⟩) NB102_106.out _).trans (((cell_far (p := ⟨gb106, _, none⟩) NB102_106.out _).trans (((cell_far (p := ⟨gb106, _, none⟩) NB102_106.out _).trans (hHeld.2.2.2.1)))))), ((cell_far (p := ⟨gb106, _, none⟩) (qzz9_) _).trans (((cell_far (p := ⟨gb106, _, none⟩) (qzz9_) _).trans (((cell_far (p := ⟨gb106, _, none⟩) (qzz9_) _).trans (hHeld.2.2.2.2.1)))))), ((cell_far (p := ⟨gb106, _, none⟩) (qzz11_) _).trans (((cell_far (p := ⟨gb106, _, none⟩) (qzz11_) _).trans (((cell_far (p := ⟨gb106, _, none⟩) (qzz11_) _).trans (hHeld.2.2.2.2.2.1)))))), ((cell_far (p := ⟨gb106, _, none⟩) (qzz13_) _).trans (((cell_far (p := ⟨gb106, _, none⟩) (qzz13_) _).trans (((cell_far (p := ⟨gb106, _, none⟩) (qzz13_) _).trans (hHeld.2.2.2.2.2.2.1)))))), ((cell_far (p := ⟨gb106, _, none⟩) (qzz15_) _).trans (((cell_far (p := ⟨gb106, _, none⟩) (qzz15_) _).trans (((cell_far (p := ⟨gb106, _, none⟩) (qzz15_) _).trans (hHeld.2.2.2.2.2.2.2.1)))))), ((cell_far (p := ⟨gb106, _, none⟩) (qzz17_) _).trans (((cell_far (p := ⟨gb106, _, none⟩) (qzz17_) _).trans (((cell_far (p := ⟨gb106, _, none⟩) (qzz17_) _).trans (hHeld.2.2.2.2.2.2.2.2.1)))))), ((cell_far (p := ⟨gb106, _, none⟩) (qzz19_) _).trans (((cell_far (p := ⟨gb106, _, none⟩) (qzz19_) _).trans (((cell_far (p := ⟨gb106, _, none⟩) (qzz19_) _).trans (hHeld.2.2.2.2.2.2.2.2.2))))))⟩ (fun hHeld => ?_)
     clear hK K
     refine done_ (done_of HT_.out (by kernel_rfl)) ?_
     have hnb33 := NB105_101.out
     have hnc33 := NB101_105.out
     have hnb34 := NB105_102.out
     have hnc34 := NB102_105.out
     have hnb35 := NB105_106.out
     have hnc35 := NB106_105.out
     have hcz36_0 : w26.cell? ⟨gb105, 0, none⟩ = some (.int .i64 0) := (blk_cell BK105.out 0).trans rfl
     have hcz36_1 : w26.cell? ⟨gb105, 1, none⟩ = some (.string (⟨#[]⟩ : ByteArray)) := (blk_cell BK105.out 1).trans rfl
     have hcz36_2 : w26.cell? ⟨gb105, 2, none⟩ = some (.slice none 0 0) := (blk_cell BK105.out 2).trans rfl
     have hfz36_0 := blk_frozen BK105.out 0
     have hfz36_1 := blk_frozen BK105.out 1
     have hfz36_2 := blk_frozen BK105.out 2
     have hnb37 := NB106_101.out
     have hnc37 := NB101_106.out
     have hnb38 := NB106_102.out
     have hnc38 := NB102_106.out
     have hcz39_0 : w26.cell? ⟨gb106, 0, none⟩ = some (.int .i64 0) := (blk_cell BK106.out 0).trans rfl
     have hcz39_1 : w26.cell? ⟨gb106, 1, none⟩ = some (.string (⟨#[]⟩ : ByteArray)) := (blk_cell BK106.out 1).trans rfl
     have hcz39_2 : w26.cell? ⟨gb106, 2, none⟩ = some (.slice none 0 0) := (blk_cell BK106.out 2).trans rfl
     have hfz39_0 := blk_frozen BK106.out 0
     have hfz39_1 := blk_frozen BK106.out 1
     have hfz39_2 := blk_frozen BK106.out 2
     try go_wp2_with (first | (go_at_call 41; (with_reducible refine (grommetref01_Ints.calls k2 _ _ ((rd_T45 l0_0 x5_2).f2) _ _ ((rd_T45 l1_0 x5_2).f2) true _ ?side1 ?side2 ?side3 ?side4 (hG.below (qzz31_)) A19.out).mono ?_); (case side1 => exact Kd.C_below HR103_2.out (qzz21_)); (case side2 => exact HC103_2.out); (case side3 => exact Kd.C_below HR104_2.out (qzz21_)); (case side4 => exact HC104_2.out); rintro e w' ⟨rfl, ⟨nd, rfl⟩⟩))
     go_roundg k2
     case measure => have := HJ2.out; have := HK2.out; omega
     case rel => exact ⟨(wrap64 (x5_2 + 1)), (qzz33_), H', ⟨by have := HJ2.out; have := HK2.out; omega⟩, ⟨by (with_reducible repeat (first | refine blk_drewN ?_ _ | refine blk_drew ?_ | refine blk_alloc ?_ _)); refine blk_far ?_ NB101_106.out _; (with_reducible repeat (first | refine blk_drewN ?_ _ | refine blk_drew ?_ | refine blk_alloc ?_ _)); refine blk_far ?_ NB101_106.out _; (with_reducible repeat (first | refine blk_drewN ?_ _ | refine blk_drew ?_ | refine blk_alloc ?_ _)); refine blk_far ?_ NB101_106.out _; (with_reducible repeat (first | refine blk_drewN ?_ _ | refine blk_drew ?_ | refine blk_alloc ?_ _)); refine blk_far ?_ NB101_105.out _; (with_reducible repeat (first | refine blk_drewN ?_ _ | refine blk_drew ?_ | refine blk_alloc ?_ _)); refine blk_far ?_ NB101_105.out _; (with_reducible repeat (first | refine blk_drewN ?_ _ | refine blk_drew ?_ | refine blk_alloc ?_ _)); refine blk_far ?_ NB101_105.out _; (with_reducible repeat (first | refine blk_drewN ?_ _ | refine blk_drew ?_ | refine blk_alloc ?_ _)); exact BK101.out⟩, ⟨by (with_reducible repeat (first | refine blk_drewN ?_ _ | refine blk_drew ?_ | refine blk_alloc ?_ _)); refine blk_far ?_ NB102_106.out _; (with_reducible repeat (first | refine blk_drewN ?_ _ | refine blk_drew ?_ | refine blk_alloc ?_ _)); refine blk_far ?_ NB102_106.out _; (with_reducible repeat (first | refine blk_drewN ?_ _ | refine blk_drew ?_ | refine blk_alloc ?_ _)); refine blk_far ?_ NB102_106.out _; (with_reducible repeat (first | refine blk_drewN ?_ _ | refine blk_drew ?_ | refine blk_alloc ?_ _)); refine blk_far ?_ NB102_105.out _; (with_reducible repeat (first | refine blk_drewN ?_ _ | refine blk_drew ?_ | refine blk_alloc ?_ _)); refine blk_far ?_ NB102_105.out _; (with_reducible repeat (first | refine blk_drewN ?_ _ | refine blk_drew ?_ | refine blk_alloc ?_ _)); refine blk_far ?_ NB102_105.out _; (with_reducible repeat (first | refine blk_drewN ?_ _ | refine blk_drew ?_ | refine blk_alloc ?_ _)); exact BK102.out⟩, ⟨qzz21_⟩⟩
end Go.Proofs.YtnjcpoojgmpmeaaGreatDoor.PX
namespace Go.Proofs.YtnjcpoojgmpmeaaGreatDoor.Plug
open Go.Maps RowKit YtnjcpoojgmpmeaaGreatDoor YtnjcpoojgmpmeaaGreatDoor.PX YtnjcpoojgmpmeaaGreatDoor.Utf YtnjcpoojgmpmeaaGreatDoor.Mapk YtnjcpoojgmpmeaaGreatDoor.Graphs YtnjcpoojgmpmeaaGreatDoorW.PrintWords YtnjcpoojgmpmeaaGreatDoorW.PrintLast YtnjcpoojgmpmeaaGreatDoorW.PrintMore
set_option linter.unusedVariables false
set_option linter.unusedSimpArgs false
set_option maxHeartbeats 8000000 in
set_option maxRecDepth 100000 in
theorem clone_is (A : Option Addr) (c : Nat) (xs : List Int) (W : World) (hr : Kd.C (Kd.int .i64) W A xs.length xs) (hl : xs.length ≤ 1099511627776) :
  Calls Tryz.prog 58 #[.slice A xs.length c] W fun e W' => ∃ v, e = .returned v ∧ Kd.R (Kd.int .i64) 3 W' W.heap.size (fun _ => True) v xs ∧ Below W.heap.size W W' := by
 have HR := Lib.hid hr
 have q22 : ∀ (w : World) (a : Option Addr) (n c n' c' : Nat), (binOp .eql 40 (.slice a n c) (.slice none n' c')).run Tryz.prog w = .ok (.bool a.isNone) w := fun w a n c n' c' => Lib.run_eql_slice_nil w _ _ a n c n' c' Tryz.underlying40
 cases A with
 | none =>
  have hx : xs = [] := by
   cases xs with
   | nil => rfl
   | cons a r =>
    obtain ⟨ad, h, _⟩ := hr.2.2 (by simp)
    cases h
  subst hx
  clear hr
  go_enter Tryz.func58, Tryz.ntmps58
  go_wp2
  go_ret
  exact ⟨_, rfl, Kd.R_nil _ _ _ _ _, Below.refl _ _⟩
 | some ad =>
  clear hr
  go_enter Tryz.func58, Tryz.ntmps58
  have HO := Lib.hid (R_fresh (Kd.int .i64) W.heap.size 3 W (xs := []) (inner := []) (ok := fun _ => True) (okp := fun _ => True) ⟨rfl, fun m p h => by simp at h⟩ (fun _ _ => trivial) trivial (Nat.le_refl _) (by simp))
  have HC := Lib.hid (Kd.C_below HR.out (below_alloc (Below.refl _ _) (.cells #[] 3)))
  go_wp2_with (first | (at_builtin; refine Kd.R_append_rows (Kd.int .i64) (w0 := W) W.heap.size rfl (.tmp 5) (.tmp 6) 40 3 (.int .i64 0) 8 rfl Tryz.underlying40 info3 rfl (by decide) (by omega) (.slice (some ⟨W.heap.size, 0, none⟩) 0 0) [] xs (some ad) xs.length c (fun _ => True) (fun _ => False) rfl rfl HO.out HC.out (fun _ _ h => h) (fun _ hk => hk.elim) (fun _ _ => trivial) (below_alloc (Below.refl _ _) _) (by simp) (by simp; omega) ?_; intro v7 w7 ho hb hg hat; have HV := Lib.hid ho; have HB := Lib.hid hb; clear ho hb hg hat))
  go_ret
  exact ⟨v7, rfl, HV.out, HB.out⟩
abbrev CO := List Nd × (ByteArray → Option Int) × Int
def putA (F : ByteArray → Option Int) (a : ByteArray) (k : Int) : ByteArray → Option Int := if a = ⟨#[]⟩ then F else fun y => if y = a then some k else F y
def strV (F : ByteArray → Option Int) (a : ByteArray) : Option Value := (F a).map (Value.int .i64)
def goodT (x : Tr) : Bool := (decide (-9223372036854775808 ≤ x.f0) && decide (x.f0 ≤ 9223372036854775807)) && decide (x.f1.size ≤ 1099511627776)
def setK (ns : List Nd) (at_ : Nat) (kids : List Int) : List Nd := ns.set at_ ⟨(rd_T45 ns (at_ : Int)).f0, (rd_T45 ns (at_ : Int)).f1, kids⟩
def compL (rec : Tr → CO → Option (Int × CO)) (kd : Int) (at_ : Nat) : List Tr → List (Int × ByteArray) → List Int → CO → Option (Int × CO)
 | [], _, kids, s => some ((at_ : Int), (setK s.1 at_ kids, s.2))
 | x :: r, met, kids, s =>
  if s.2.2 ≠ 0 then some ((at_ : Int), s)
  else if kd = 6 ∧ kids.length % 2 = 0 then
   if goodT x = true then
    if met.any (fun z => decide (z = (x.f0, x.f1))) = true then some ((at_ : Int), (s.1, s.2.1, 7))
    else (rec x s).bind fun q => compL rec kd at_ r ((x.f0, x.f1) :: met) (kids ++ [q.1]) q.2
   else none
  else (rec x s).bind fun q => compL rec kd at_ r met (kids ++ [q.1]) q.2
def compO : Nat → Tr → CO → Option (Int × CO)
 | 0, _, _ => none
 | K + 1, t, s =>
  if t.f2.size ≤ 1099511627776 then
   if t.f0 = 7 then
    match s.2.1 t.f2 with
    | some a => some (a, s)
    | none => some (0, (s.1, s.2.1, 11))
   else if t.f3.length ≤ 1099511627776 ∧ s.1.length ≤ 1048576 then
    compL (compO K) t.f0 s.1.length t.f3 [] [] (s.1 ++ [⟨t.f0, t.f1, []⟩], putA s.2.1 t.f2 (s.1.length : Int), s.2.2)
   else none
  else none
theorem compL_len (rec : Tr → CO → Option (Int × CO)) (hrec : ∀ x s q, rec x s = some q → s.1.length ≤ q.2.1.length) (kd : Int) (at_ : Nat) : ∀ (r : List Tr) (met : List (Int × ByteArray)) (kids : List Int) (s : CO) (q : Int × CO), compL rec kd at_ r met kids s = some q → s.1.length ≤ q.2.1.length
 | [], met, kids, s, q, h => by
  rw [compL] at h
  rw [← Option.some.inj h]
  simp [setK]
 | x :: r, met, kids, s, q, h => by
  rw [compL] at h
  by_cases c1 : s.2.2 ≠ 0
  ·
   rw [if_pos c1] at h
   rw [← Option.some.inj h]; exact Nat.le_refl _
  rw [if_neg c1] at h
  by_cases c2 : kd = 6 ∧ kids.length % 2 = 0
  rotate_left
  ·
   rw [if_neg c2] at h
   obtain ⟨q1, h1, h2⟩ := Option.bind_eq_some_iff.1 h
   exact Nat.le_trans (hrec x s q1 h1) (compL_len rec hrec kd at_ r _ _ _ q h2)
  rw [if_pos c2] at h
  by_cases c3 : goodT x = true
  rotate_left
  · rw [if_neg c3] at h; cases h
  rw [if_pos c3] at h
  by_cases c4 : met.any (fun z => decide (z = (x.f0, x.f1))) = true
  ·
   rw [if_pos c4] at h
   rw [← Option.some.inj h]; exact Nat.le_refl _
  rw [if_neg c4] at h
  obtain ⟨q1, h1, h2⟩ := Option.bind_eq_some_iff.1 h
  exact Nat.le_trans (hrec x s q1 h1) (compL_len rec hrec kd at_ r _ _ _ q h2)
theorem compO_len : ∀ (K : Nat) (t : Tr) (s : CO) (q : Int × CO), compO K t s = some q → s.1.length ≤ q.2.1.length
 | 0, t, s, q, h => by simp [compO] at h
 | K + 1, t, s, q, h => by
  rw [compO] at h
  by_cases c0 : t.f2.size ≤ 1099511627776
  rotate_left
  · rw [if_neg c0] at h; cases h
  rw [if_pos c0] at h
  by_cases c1 : t.f0 = 7
  ·
   rw [if_pos c1] at h
   cases hv : s.2.1 t.f2 with
   | none => rw [hv] at h; rw [← Option.some.inj h]; exact Nat.le_refl _
   | some a => rw [hv] at h; rw [← Option.some.inj h]; exact Nat.le_refl _
  rw [if_neg c1] at h
  by_cases c2 : t.f3.length ≤ 1099511627776 ∧ s.1.length ≤ 1048576
  rotate_left
  · rw [if_neg c2] at h; cases h
  rw [if_pos c2] at h
  have := compL_len _ (compO_len K) _ _ _ _ _ _ q h
  simp at this
  omega
theorem str_law : Keyed Tryz.prog 9 := string_keyed Tryz.underlying9
theorem str_key (a : ByteArray) (h : a.size ≤ 1099511627776) : keyOf Tryz.prog 9 (.string a) = some (.string a.data.toList) := WideMaps.keyOf_string_mk Tryz.underlying9 (by unfold maxLen; omega)
theorem strV_inj (x y : ByteArray) (h : Value.string x = Value.string y) : x = y := by injection h
structure Cm (w0 : World) (cb am : Nat) (ok : Nat → Prop) (u v : Value) (s : CO) (W : World) : Prop where
 l : W.heap[cb]? = some (.cells #[u, .map (some am), .int .i64 s.2.2] 87)
 a : MapIs Tryz.prog 9 Value.string W am s.1.length (strV s.2.1)
 row : Kd.S k45 45 W w0.heap.size ok v s.1
 bel : Below w0.heap.size w0 W
 lts : w0.heap.size ≤ cb ∧ w0.heap.size ≤ am ∧ cb ≠ am
 oks : ¬ ok cb ∧ ¬ ok am
def KC (cb am : Nat) (ok : Nat → Prop) (W W' : World) : Prop := W.heap.size ≤ W'.heap.size ∧ ∀ k, k < W.heap.size → ¬ ok k → k ≠ cb → k ≠ am → W'.heap[k]? = W.heap[k]?
section
variable {w0 W W' W2 : World} {cb am : Nat} {ok ok' : Nat → Prop} {u v v1 : Value} {s : CO}
theorem KC.refl : KC cb am ok W W := ⟨Nat.le_refl _, fun _ _ _ _ _ => rfl⟩
theorem KC.trans (h : KC cb am ok W W') (h2 : KC cb am ok W' W2) : KC cb am ok W W2 := ⟨Nat.le_trans h.1 h2.1, fun k hk a b c => (h2.2 k (Nat.lt_of_lt_of_le hk h.1) a b c).trans (h.2 k hk a b c)⟩
theorem KC.below (h : Below W.heap.size W W') : KC cb am ok W W' := ⟨h.size, fun k hk _ _ _ => h.block k hk⟩
theorem KC.weak (h : KC cb am ok' W W') (hok : ∀ k, ok' k → ok k) : KC cb am ok W W' := ⟨h.1, fun k hk a b c => h.2 k hk (fun e => a (hok k e)) b c⟩
theorem KC.then_ (h : KC cb am ok W W') (hs : W'.heap.size ≤ W2.heap.size) (hb : ∀ k, k < W.heap.size → ¬ ok k → k ≠ cb → k ≠ am → W2.heap[k]? = W'.heap[k]?) : KC cb am ok W W2 := ⟨Nat.le_trans h.1 hs, fun k hk a b c => (hb k hk a b c).trans (h.2 k hk a b c)⟩
theorem Cm.lt (h : Cm w0 cb am ok u v s W) : cb < W.heap.size ∧ am < W.heap.size := ⟨blk_lt h.l, h.a.lt⟩
theorem Cm.keep (h : Cm w0 cb am ok u v s W) (hb : Below W.heap.size W W') : Cm w0 cb am ok u v s W' :=
  ⟨(hb.block cb (blk_lt h.l)).trans h.l, h.a.of_below hb, Kd.S_below h.row hb, h.bel.trans (hb.mono h.bel.size), h.lts, h.oks⟩
theorem Cm.mono (h : Cm w0 cb am ok u v s W) (hok : ∀ k, ok k → ok' k) (h2 : ¬ ok' cb ∧ ¬ ok' am) : Cm w0 cb am ok' u v s W := ⟨h.l, h.a, Kd.S_mono h.row hok, h.bel, h.lts, h2⟩
theorem Cm.bound (h : Cm w0 cb am ok u v s W) : Cm w0 cb am (fun k => ok k ∧ k < W.heap.size) u v s W := ⟨h.l, h.a, Kd.S_mono (Kd.S_bound h.row) (fun k hk => ⟨hk.1, hk.2.2.1⟩), h.bel, h.lts, fun e => h.oks.1 e.1, fun e => h.oks.2 e.1⟩
theorem Cm.move (h : Cm w0 cb am ok u v s W) (hl : W'.heap[cb]? = W.heap[cb]?) (hm : W'.heap[am]? = W.heap[am]?) (hr : ∀ k, ok k → k < W.heap.size → W'.heap[k]? = W.heap[k]?) (hb : Below w0.heap.size w0 W') : Cm w0 cb am ok u v s W' :=
  ⟨hl.trans h.l, h.a.of_block hm, Kd.S_step h.row hr, hb, h.lts, h.oks⟩
theorem Cm.cells (h : Cm w0 cb am ok u v s W) : W.cell? ⟨cb, 0, none⟩ = some u ∧ W.cell? ⟨cb, 1, none⟩ = some (.map (some am)) ∧ W.cell? ⟨cb, 2, none⟩ = some (.int .i64 s.2.2) ∧ W.frozen? ⟨cb, 0, none⟩ = false ∧ W.frozen? ⟨cb, 2, none⟩ = false :=
  ⟨(blk_cell h.l 0).trans rfl, (blk_cell h.l 1).trans rfl, (blk_cell h.l 2).trans rfl, blk_frozen h.l 0, blk_frozen h.l 2⟩
theorem Cm.why (h : Cm w0 cb am ok u v s W) (x : Int) : Cm w0 cb am ok u v (s.1, s.2.1, x) (W.setCell ⟨cb, 2, none⟩ (.int .i64 x)) := by
 obtain ⟨l1, l2, l3⟩ := h.lts
 exact ⟨by simpa using blk_set h.l 2 (.int .i64 x), h.a.of_block (Below.heap_setCell W ⟨cb, 2, none⟩ _ am (Ne.symm l3)), Kd.S_far h.row (p := ⟨cb, 2, none⟩) (fun k hk e => h.oks.1 ((show k = cb from e) ▸ hk)) _, h.bel.setCell (p := ⟨cb, 2, none⟩) l1 _, h.lts, h.oks⟩
theorem Cm.store (h : Cm w0 cb am ok u v s W) : Cm w0 cb am ok v v s (W.setCell ⟨cb, 0, none⟩ v) := by
 obtain ⟨l1, l2, l3⟩ := h.lts
 exact ⟨by simpa using blk_set h.l 0 v, h.a.of_block (Below.heap_setCell W ⟨cb, 0, none⟩ _ am (Ne.symm l3)), Kd.S_far h.row (p := ⟨cb, 0, none⟩) (fun k hk e => h.oks.1 ((show k = cb from e) ▸ hk)) _, h.bel.setCell (p := ⟨cb, 0, none⟩) l1 _, h.lts, h.oks⟩
theorem Cm.grow {ns : List Nd} (h : Cm w0 cb am ok u v s W) (hg : W.grownBy W' v.ownBlock) (hr : Kd.S k45 45 W' w0.heap.size ok' v1 ns) (hn : s.1.length ≤ ns.length) (h2 : ¬ ok' cb ∧ ¬ ok' am) : Cm w0 cb am ok' u v1 (ns, s.2) W' := by
 have hne : ∀ k, ¬ ok k → some k ≠ v.ownBlock := fun k hk e => hk ((Kd.S_R h.row).1 k e.symm)
 have hb : ∀ k, v.ownBlock = some k → w0.heap.size ≤ k := Kd.S_base h.row
 refine ⟨(hg.block cb (blk_lt h.l) (hne cb h.oks.1)).trans h.l, (h.a.kept hg (hne am h.oks.2)).mono hn, hr, h.bel.trans ⟨hg.os, hg.tape, hg.output, hg.size, fun k hk => hg.block k (Nat.lt_of_lt_of_le hk h.bel.size) (fun e => by have := hb k e.symm; omega)⟩, h.lts, h2⟩
theorem Cm.kc (h : Cm w0 cb am ok u v s W) (hg : W.grownBy W' v.ownBlock) : KC cb am ok W W' := ⟨hg.size, fun k hk a _ _ => hg.block k hk (fun e => a ((Kd.S_R h.row).1 k e.symm))⟩
theorem Cm.look (h : Cm w0 cb am ok u v s W) (a : ByteArray) (ha : a.size ≤ 1099511627776) (n : Nat) :
  (Instr.lookup 85 (.map (some am)) (.string a) true).run Tryz.prog (W.drewN n) = .ok (.tuple #[.int .i64 ((s.2.1 a).getD 0), .bool (s.2.1 a).isSome]) (W.drewN n) := by
 rw [(h.a.of_block (w' := W.drewN n) rfl).look_ok str_law Tryz.underlying85 (zero_int _) (str_key a ha)]
 unfold strV
 cases s.2.1 a <;> rfl
theorem Cm.put (h : Cm w0 cb am ok u v s W) (a : ByteArray) (ha : a.size ≤ 1099511627776) (hne : a ≠ ⟨#[]⟩) (k : Int) {m : Nat} (hm : m + 1 ≤ s.1.length) (hm2 : m ≤ 1099511627776) (h0 : MapIs Tryz.prog 9 Value.string W am m (strV s.2.1)) :
  ∃ W', (Instr.mapUpdate 85 (.map (some am)) (.string a) (.int .i64 k)).run Tryz.prog W = .ok () W' ∧ Cm w0 cb am ok u v (s.1, putA s.2.1 a k, s.2.2) W' ∧ W.grownBy W' (some am) := by
 obtain ⟨l1, l2, l3⟩ := h.lts
 obtain ⟨W', hr, hm', hg⟩ := h0.put str_law Tryz.underlying85 (by unfold maxLen; omega) (str_key a ha) (.int .i64 k)
 have e2 : (fun y => if y = a then some (Value.int .i64 k) else strV s.2.1 y) = strV (putA s.2.1 a k) := by
  funext y
  unfold strV putA
  rw [if_neg hne]
  by_cases e : y = a
  · simp [e]
  simp [e]
 rw [e2] at hm'
 exact ⟨W', hr, ⟨(hg.block cb (blk_lt h.l) (fun e => l3 (Option.some.inj e))).trans h.l, hm'.mono hm, Kd.S_grown h.row hg (fun k hk e => h.oks.2 ((Option.some.inj e) ▸ hk)), h.bel.trans (below_of_grown hg l2 h.bel.size), h.lts, h.oks⟩, hg⟩
end
def Cd (w0 W : World) (cb am : Nat) (ok : Nat → Prop) (s : CO) (Z : World) : Prop := ∃ v, Cm w0 cb am ok v v s Z ∧ KC cb am ok W Z
structure Cf (w0 W : World) (cb am : Nat) (ok okc : Nat → Prop) (gb : Nat) (cs : Array Value) (u v : Value) (s : CO) (Z : World) : Prop where
 cm : Cm w0 cb am okc u v s Z
 g : Z.heap[gb]? = some (.cells cs 29)
 kc : KC cb am ok W Z
 sub : (∀ k, okc k → ok k) ∧ ¬ okc gb ∧ W.heap.size ≤ gb
 top : (∀ k, W.heap.size ≤ k → ok k) ∧ cb < W.heap.size ∧ am < W.heap.size ∧ ¬ ok cb ∧ ¬ ok am
section
variable {w0 W Z Z' : World} {cb am gb : Nat} {ok okc okd : Nat → Prop} {cs : Array Value} {u v v1 : Value} {s s' : CO}
theorem cf_start (h : Cm w0 cb am ok v v s W) (hf : ∀ k, W.heap.size ≤ k → ok k) (hg : gb = W.heap.size) (hb : Z.heap[gb]? = some (.cells cs 29)) (hb1 : Below W.heap.size W Z) : Cf w0 W cb am ok (fun k => ok k ∧ k ≠ gb) gb cs v v s Z :=
  ⟨(h.bound.keep hb1).mono (fun k hk => ⟨hk.1, by have := hk.2; omega⟩) ⟨fun e => h.oks.1 e.1, fun e => h.oks.2 e.1⟩, hb, KC.below hb1, ⟨fun k hk => hk.1, fun e => e.2 rfl, by omega⟩, hf, h.lt.1, h.lt.2, h.oks.1, h.oks.2⟩
theorem Cf.below (h : Cf w0 W cb am ok okc gb cs u v s Z) (hb : Below Z.heap.size Z Z') : Cf w0 W cb am ok okc gb cs u v s Z' :=
  ⟨h.cm.keep hb, (hb.block gb (blk_lt h.g)).trans h.g, h.kc.trans (KC.below hb), h.sub, h.top⟩
theorem Cf.why (h : Cf w0 W cb am ok okc gb cs u v s Z) (x : Int) : Cf w0 W cb am ok okc gb cs u v (s.1, s.2.1, x) (Z.setCell ⟨cb, 2, none⟩ (.int .i64 x)) := by
 obtain ⟨t1, t2, t3, t4, t5⟩ := h.top
 exact ⟨h.cm.why x, (Below.heap_setCell Z ⟨cb, 2, none⟩ _ gb (by show gb ≠ cb; have := h.sub; omega)).trans h.g, h.kc.then_ (by simp [World.setCell]) (fun k hk a b c => Below.heap_setCell Z ⟨cb, 2, none⟩ _ k b), h.sub, h.top⟩
theorem Cf.store (h : Cf w0 W cb am ok okc gb cs u v s Z) : Cf w0 W cb am ok okc gb cs v v s (Z.setCell ⟨cb, 0, none⟩ v) := by
 obtain ⟨t1, t2, t3, t4, t5⟩ := h.top
 exact ⟨h.cm.store, (Below.heap_setCell Z ⟨cb, 0, none⟩ _ gb (by show gb ≠ cb; have := h.sub; omega)).trans h.g, h.kc.then_ (by simp [World.setCell]) (fun k hk a b c => Below.heap_setCell Z ⟨cb, 0, none⟩ _ k b), h.sub, h.top⟩
theorem Cf.grow {ns : List Nd} (h : Cf w0 W cb am ok okc gb cs u v s Z) (hg : Z.grownBy Z' v.ownBlock) (hr : Kd.S k45 45 Z' w0.heap.size okc v1 ns) (hn : s.1.length ≤ ns.length) : Cf w0 W cb am ok okc gb cs u v1 (ns, s.2) Z' :=
  ⟨h.cm.grow hg hr hn h.cm.oks, (hg.block gb (blk_lt h.g) (fun e => h.sub.2.1 ((Kd.S_R h.cm.row).1 gb e.symm))).trans h.g, h.kc.trans ((h.cm.kc hg).weak h.sub.1), h.sub, h.top⟩
theorem Cf.put (h : Cf w0 W cb am ok okc gb cs u v s Z) (a : ByteArray) (ha : a.size ≤ 1099511627776) (hne : a ≠ ⟨#[]⟩) (k : Int) {m : Nat} (hm : m + 1 ≤ s.1.length) (hm2 : m ≤ 1099511627776) (h0 : MapIs Tryz.prog 9 Value.string Z am m (strV s.2.1)) :
  ∃ Z', (Instr.mapUpdate 85 (.map (some am)) (.string a) (.int .i64 k)).run Tryz.prog Z = .ok () Z' ∧ Cf w0 W cb am ok okc gb cs u v (s.1, putA s.2.1 a k, s.2.2) Z' := by
 obtain ⟨t1, t2, t3, t4, t5⟩ := h.top
 obtain ⟨Z', hr, hc, hg⟩ := h.cm.put a ha hne k hm hm2 h0
 exact ⟨Z', hr, hc, (hg.block gb (blk_lt h.g) (fun e => by have := Option.some.inj e; have := h.sub; omega)).trans h.g, h.kc.then_ hg.size (fun k hk a b c => hg.block k (Nat.lt_of_lt_of_le hk h.kc.1) (fun e => c (Option.some.inj e))), h.sub, h.top⟩
theorem Cf.own {row : Option Nat} (h : Cf w0 W cb am ok okc gb cs u v s Z) (hg : Z.grownBy Z' row) (hb : ∀ b, row = some b → W.heap.size ≤ b ∧ ¬ okc b ∧ b ≠ gb) : Cf w0 W cb am ok okc gb cs u v s Z' := by
 obtain ⟨t1, t2, t3, t4, t5⟩ := h.top
 have hB : ∀ k, k < Z.heap.size → (∀ b, row = some b → k ≠ b) → Z'.heap[k]? = Z.heap[k]? := fun k hk hne => hg.block k hk (fun e => hne k e.symm rfl)
 have hw := h.kc.1
 refine ⟨h.cm.move (hB cb (by omega) (fun b e h1 => by have := hb b e; omega)) (hB am (by omega) (fun b e h1 => by have := hb b e; omega)) (fun k hk hl => hB k hl (fun b e h1 => (hb b e).2.1 (h1 ▸ hk))) (h.cm.bel.trans ⟨hg.os, hg.tape, hg.output, hg.size, fun k hk => hB k (Nat.lt_of_lt_of_le hk h.cm.bel.size) (fun b e h1 => by have := (hb b e).1; have := h.cm.lts; omega)⟩), (hB gb (blk_lt h.g) (fun b e h1 => (hb b e).2.2 h1.symm)).trans h.g, h.kc.then_ hg.size (fun k hk a b c => hB k (by omega) (fun b e h1 => by have := (hb b e).1; omega)), h.sub, h.top⟩
theorem Cf.turn (h : Cf w0 W cb am ok okc gb cs u v s Z) (hr : Kd.S k45 45 Z w0.heap.size okd v s.1) (hd : ∀ k, okd k → ok k) (hgb : ¬ okd gb) : Cf w0 W cb am ok okd gb cs u v s Z :=
  ⟨⟨h.cm.l, h.cm.a, hr, h.cm.bel, h.cm.lts, fun e => h.top.2.2.2.1 (hd _ e), fun e => h.top.2.2.2.2 (hd _ e)⟩, h.g, h.kc, ⟨hd, hgb, h.sub.2.2⟩, h.top⟩
theorem Cf.done (h : Cf w0 W cb am ok okc gb cs v v s Z) : Cd w0 W cb am ok s Z := ⟨v, h.cm.mono h.sub.1 ⟨h.top.2.2.2.1, h.top.2.2.2.2⟩, h.kc⟩
theorem Cf.cells {c0 c1 c2 c3 : Value} (h : Cf w0 W cb am ok okc gb #[c0, c1, c2, c3] u v s Z) : Z.cell? ⟨gb, 0, none⟩ = some c0 ∧ Z.cell? ⟨gb, 1, none⟩ = some c1 ∧ Z.cell? ⟨gb, 2, none⟩ = some c2 ∧ Z.cell? ⟨gb, 3, none⟩ = some c3 :=
  ⟨(blk_cell h.g 0).trans rfl, (blk_cell h.g 1).trans rfl, (blk_cell h.g 2).trans rfl, (blk_cell h.g 3).trans rfl⟩
end
structure Cl (w0 W : World) (cb am : Nat) (ok : Nat → Prop) (gb mm : Nat) (cs : Array Value) (v uk : Value) (s : CO) (met : List (Int × ByteArray)) (nm : Nat) (ks : List Int) (Z : World) : Prop where
 cf : Cf w0 W cb am ok (fun k => (ok k ∧ k ≠ gb ∧ k ≠ mm) ∧ some k ≠ uk.ownBlock) gb cs v v s Z
 m : MapIs Tryz.prog 117 kv Z mm nm (metF met)
 row : Kd.R (Kd.int .i64) 3 Z W.heap.size (fun k => k ≠ gb ∧ k ≠ mm ∧ k ≠ cb ∧ k ≠ am) uk ks
 lt : W.heap.size ≤ mm ∧ mm ≠ gb
section
variable {w0 W Z Z' : World} {cb am gb mm : Nat} {ok : Nat → Prop} {cs : Array Value} {v v1 uk u1 : Value} {s s' : CO} {met : List (Int × ByteArray)} {nm : Nat} {ks : List Int}
theorem Cl.below (h : Cl w0 W cb am ok gb mm cs v uk s met nm ks Z) (hb : Below Z.heap.size Z Z') : Cl w0 W cb am ok gb mm cs v uk s met nm ks Z' :=
  ⟨h.cf.below hb, h.m.of_below hb, Kd.R_below h.row hb, h.lt⟩
theorem Cl.why (h : Cl w0 W cb am ok gb mm cs v uk s met nm ks Z) (x : Int) : Cd w0 W cb am ok (s.1, s.2.1, x) (Z.setCell ⟨cb, 2, none⟩ (.int .i64 x)) := (h.cf.why x).done
theorem Cl.tight (h : Cl w0 W cb am ok gb mm cs v uk s met nm ks Z) : Kd.R (Kd.int .i64) 3 Z W.heap.size (fun k => some k = uk.ownBlock ∧ (k ≠ gb ∧ k ≠ mm ∧ k ≠ cb ∧ k ≠ am)) uk ks := Kd.R_tight2 rfl h.row
theorem Cl.call (h : Cl w0 W cb am ok gb mm cs v uk s met nm ks Z) (hc : Cm w0 cb am (fun k => (ok k ∧ k ≠ gb ∧ k ≠ mm) ∧ some k ≠ uk.ownBlock) v1 v1 s' Z') (hk : KC cb am (fun k => (ok k ∧ k ≠ gb ∧ k ≠ mm) ∧ some k ≠ uk.ownBlock) Z Z') : Cl w0 W cb am ok gb mm cs v1 uk s' met nm ks Z' := by
 obtain ⟨t1, t2, t3, t4, t5⟩ := h.cf.top
 have hs := h.cf.sub
 have hl := h.lt
 refine ⟨⟨hc, (hk.2 gb (blk_lt h.cf.g) (fun e => e.1.2.1 rfl) (by omega) (by omega)).trans h.cf.g, h.cf.kc.trans (hk.weak (fun k e => e.1.1)), hs, h.cf.top⟩, h.m.of_block (hk.2 mm h.m.lt (fun e => e.1.2.2 rfl) (by omega) (by omega)), ?_, hl⟩
 exact Kd.R_mono (Kd.R_step h.tight (fun k hk' hlt => hk.2 k hlt (fun e => e.2 hk'.1) hk'.2.2.2.1 hk'.2.2.2.2)) (fun k hk' => hk'.2)
theorem Cl.key (h : Cl w0 W cb am ok gb mm cs v uk s met nm ks Z) (hg : Z.grownBy Z' (some mm)) : Cf w0 W cb am ok (fun k => (ok k ∧ k ≠ gb ∧ k ≠ mm) ∧ some k ≠ uk.ownBlock) gb cs v v s Z' ∧ Kd.R (Kd.int .i64) 3 Z' W.heap.size (fun k => k ≠ gb ∧ k ≠ mm ∧ k ≠ cb ∧ k ≠ am) uk ks :=
  ⟨h.cf.own hg (fun b e => by have := Option.some.inj e; subst this; exact ⟨h.lt.1, fun e => e.1.2.2 rfl, h.lt.2⟩), Kd.R_step h.row (fun k hk hlt => hg.block k hlt (fun e => hk.2.1 (Option.some.inj e)))⟩
theorem Cl.keyed (h : Cl w0 W cb am ok gb mm cs v uk s met nm ks Z) (x : Int × ByteArray) {n' : Nat} (hm : MapIs Tryz.prog 117 kv Z' mm n' (fun y => if y = x then some (.bool true) else metF met y)) (hg : Z.grownBy Z' (some mm)) : Cl w0 W cb am ok gb mm cs v uk s (x :: met) n' ks Z' := by
 rw [metF_cons] at hm
 exact ⟨(h.key hg).1, hm, (h.key hg).2, h.lt⟩
theorem Cl.grow {ks' : List Int} (h : Cl w0 W cb am ok gb mm cs v uk s met nm ks Z) (hg : Z.grownBy Z' uk.ownBlock) (hat : u1.ownBlock = uk.ownBlock ∨ ∃ b, u1.ownBlock = some b ∧ Z.heap.size ≤ b) (hr : Kd.R (Kd.int .i64) 3 Z' W.heap.size (fun k => k ≠ gb ∧ k ≠ mm ∧ k ≠ cb ∧ k ≠ am) u1 ks') : Cl w0 W cb am ok gb mm cs v u1 s met nm ks' Z' := by
 have hb : ∀ b, uk.ownBlock = some b → W.heap.size ≤ b ∧ (b ≠ gb ∧ b ≠ mm ∧ b ≠ cb ∧ b ≠ am) := fun b e => ⟨((Kd.R_bound h.row).1 b e).2.1, ((Kd.R_bound h.row).1 b e).1⟩
 have h1 := h.cf.own hg (fun b e => ⟨(hb b e).1, fun e2 => e2.2 e.symm, (hb b e).2.1⟩)
 exact ⟨h1.turn (Kd.S_after h.cf.cm.row hg hat) (fun k e => e.1.1) (fun e => e.1.2.1 rfl), h.m.kept hg (fun e => ((hb mm e.symm).2.2.1) rfl), hr, h.lt⟩
theorem cl_start (h : Cf w0 W cb am ok (fun k => ok k ∧ k ≠ gb) gb cs v v s Z) : Cl w0 W cb am ok gb Z.heap.size cs v (.slice none 0 0) s [] 0 [] (Z.alloc (.map #[] 0)) := by
 have hb := below_alloc (Below.refl Z.heap.size Z) (.map #[] 0)
 have hg := blk_lt h.g
 have hw := h.kc.1
 refine ⟨(h.below hb).turn (Kd.S_mono (Kd.S_below (Kd.S_bound h.cm.row) hb) (fun k hk => ⟨⟨hk.1.1, hk.1.2, by have := hk.2.2.1; omega⟩, by simp [Value.ownBlock]⟩)) (fun k e => e.1.1) (fun e => e.1.2.1 rfl), ?_, Kd.R_nil _ _ _ _ _, by omega, by omega⟩
 have e : metF [] = fun _ => (none : Option Value) := by funext y; rfl
 rw [e]
 exact made Z Tryz.prog 117 (fun x y h => kv_inj.1 h)
theorem Cl.free (h : Cl w0 W cb am ok gb mm cs v uk s met nm ks Z) : ∀ k, Z.heap.size ≤ k → (ok k ∧ k ≠ gb ∧ k ≠ mm) ∧ some k ≠ uk.ownBlock := fun k hk => by
 have h1 := blk_lt h.cf.g
 have h2 := h.m.lt
 have h3 := h.cf.kc.1
 exact ⟨⟨h.cf.top.1 k (by omega), by omega, by omega⟩, fun e => by have := ((Kd.R_bound h.row).1 k e.symm).2.2.1; omega⟩
theorem Cl.last {ns : List Nd} (h : Cl w0 W cb am ok gb mm cs v uk s met nm ks Z) (hg : Z.grownBy Z' v.ownBlock) (hr : Kd.S k45 45 Z' w0.heap.size ok v ns) (hn : s.1.length ≤ ns.length) : Cd w0 W cb am ok (ns, s.2) Z' :=
  ⟨v, h.cf.cm.grow hg hr hn ⟨h.cf.top.2.2.2.1, h.cf.top.2.2.2.2⟩, h.cf.kc.trans ((h.cf.cm.kc hg).weak (fun k e => e.1.1))⟩
theorem Cl.kid {g n cap : Nat} {Au : Option Addr} {cu : Nat} (h : Cl w0 W cb am ok gb mm cs (.slice (some ⟨g, 0, none⟩) n cap) (.slice Au ks.length cu) s met nm ks Z) (at_ : Nat) (h1 : at_ < s.1.length) :
  ∃ (c : List Value) (oki : Nat → Prop), (∀ j u, c[j]? = some u → Z.cell? ⟨g, (at_ : Int).toNat * 3 + j, none⟩ = some u) ∧ Z.frozen? ⟨g, (at_ : Int).toNat * 3 + 2, none⟩ = false ∧
   Kd.H k45 45 Z w0.heap.size ok (.slice (some ⟨g, 0, none⟩) n cap) s.1 (at_ : Int) (fun k => oki k ∨ some k = (Value.slice Au ks.length cu).ownBlock) c ∧
   k45.M Z w0.heap.size (fun k => some k = (Value.slice Au ks.length cu).ownBlock) ⟨(rd_T45 s.1 (at_ : Int)).f0, (rd_T45 s.1 (at_ : Int)).f1, ks⟩ (c.take 2 ++ [.slice Au ks.length cu] ++ c.drop (2 + 1)) := by
 have hn := (Kd.S_reads' h.cf.cm.row).1
 have hr := Kd.R_bound h.tight
 have hS : Kd.S k45 45 Z w0.heap.size (fun k => ok k ∧ ¬ some k = (Value.slice Au ks.length cu).ownBlock) (.slice (some ⟨g, 0, none⟩) n cap) s.1 := Kd.S_mono h.cf.cm.row (fun k hk => ⟨hk.1.1, hk.2⟩)
 obtain ⟨oki, c, hcl, hM, hcc, hfz, hoki, hH⟩ := Kd.S_elem hS ⟨0, ⟨#[]⟩, []⟩ (at_ : Int) (by omega) (by omega)
 have e : s.1.getD (at_ : Int).toNat ⟨0, ⟨#[]⟩, []⟩ = rd_T45 s.1 (at_ : Int) := rfl
 rw [e] at hM
 obtain ⟨v2, rfl, _⟩ := k45_openM hM
 refine ⟨_, oki, hcc, hfz 2, Kd.H_more hH (fun k hk => h.cf.top.1 k ?_), ?_⟩
 · exact (hr.1 k hk.symm).2.1
 · exact k45_mkM Z _ _ ⟨(rd_T45 s.1 (at_ : Int)).f0, (rd_T45 s.1 (at_ : Int)).f1, ks⟩ (Kd.R_lower (Kd.R_mono h.tight (fun k hk => hk.1)) (Nat.le_trans h.cf.cm.bel.size (Nat.le_refl _) |> fun _ => by have h1 := h.cf.sub.2.2; have h2 := h.cf.top.2.1; have h3 := h.cf.cm.lts.1; omega))
end
end Go.Proofs.YtnjcpoojgmpmeaaGreatDoor.Plug

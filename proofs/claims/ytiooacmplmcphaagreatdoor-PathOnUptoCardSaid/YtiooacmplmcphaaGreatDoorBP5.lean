/- Texts that stand behind one another, laid into one: what this claim needs of them. -/
import Derived.Test.YtiooacmplmcphaaGreatDoorBP0
import Derived.Test.YtiooacmplmcphaaGreatDoorBP1
import Derived.Test.YtiooacmplmcphaaGreatDoorBP3
import Derived.Test.YtiooacmplmcphaaGreatDoorBP4
import Derived.Test.YtiooacmplmcphaaGreatDoorBP2
namespace Go.Proofs.YtiooacmplmcphaaGreatDoor.PX
open RowKit YtiooacmplmcphaaGreatDoorW.PrintWords YtiooacmplmcphaaGreatDoorW.PrintLast YtiooacmplmcphaaGreatDoorW.PrintMore YtiooacmplmcphaaGreatDoor YtiooacmplmcphaaGreatDoor.Plug
attribute [local go_sem] max2_int min2_int max_two min_two max_three min_three max_four min_four   -- for this text's walks alone
set_option linter.unusedVariables false
set_option linter.unusedSimpArgs false
def grommetlaw16_PathOn.j0 : Nat → List (S58) → List (S58) → Bool → List (S45) → Int → Option (Bool)
  | 0, _, _, _, _, _ => none
  | k + 1, x1, x2, x33, x102000, x102001 => if x33 = true then ((grommetlaw16_alive.f).bind fun t105 => (some t105)) else ((grommetlaw16_theirs.f k x1).bind fun t106 => ((path_Get.f k x102000 x102001 t106).bind fun bt109 => (if ([] : List (S58)).length + x1.length < 4398046511104 then ((some (([] : List (S58)) ++ x1 : List (S58))).bind fun y111 => (if y111.length + x2.length < 4398046511104 then ((grommetlaw16_theirs.f k (y111 ++ x2)).bind fun t117 => ((path_Get.f k x102000 x102001 t117).bind fun bt120 => ((grommetlaw16_theirs.f k x2).bind fun t122 => ((path_Format.f t122).bind fun bt125 => (if bt125.2 = 0 then (if bt109.2 = 0 then ((graph_Right.f x102000 bt109.1).bind fun t130 => (if t130 = true then ((grommetlaw16_theirs.f k x2).bind fun t131 => ((path_Get.f k x102000 bt109.1 t131).bind fun bt134 => (if bt134.1 = bt120.1 then (if bt134.2 = bt120.2 then ((grommetlaw16_alive.f).bind fun t136 => (some t136)) else (some false)) else (some false)))) else (some false))) else (if bt109.2 = bt120.2 then (if bt109.1 = 0 then (if bt120.1 = 0 then ((grommetlaw16_alive.f).bind fun t128 => (some t128)) else (some false)) else (some false)) else (some false))) else (if bt120.2 = 1 then ((grommetlaw16_alive.f).bind fun t127 => (some t127)) else (some false))))))) else (none))) else (none))))
def grommetlaw16_PathOn.f (k : Nat) (l0_0 : List (S45)) (a0_1 : Int) (l1 : List (S58)) (l2 : List (S58)) : Option (Bool) := (grommetlaw16_large.f k l0_0 a0_1).bind fun t102 => (if t102 = true then (grommetlaw16_PathOn.j0 k l1 l2 true l0_0 a0_1) else ((grommetlaw16_long.f k l1).bind fun t103 => (if t103 = true then (grommetlaw16_PathOn.j0 k l1 l2 true l0_0 a0_1) else ((grommetlaw16_long.f k l2).bind fun t104 => (if t104 = true then (grommetlaw16_PathOn.j0 k l1 l2 true l0_0 a0_1) else (grommetlaw16_PathOn.j0 k l1 l2 (decide ((wrap64 ((l1.length : Int) + (l2.length : Int))) > 64)) l0_0 a0_1))))))
def grommetlaw16_PathOn.T3 : Bool × List (List Nat × List Nat) := (true, [([], []), ([], []), ([1], [1]), ([0, 2, 2], [0, 2]), ([3], [3]), ([4], [4]), ([4], [4]), ([5, 3, 0, 1, 2, 3, 4, 5], [5]), ([6, 7, 0, 1, 2, 3, 4, 5, 6, 7], [6])])
def grommetlaw16_PathOn.B3 : List Nat := [0, 0, 2, 7, 15, 31, 31, 63, 255]
theorem grommetlaw16_PathOn.tab3 : rtab .any (opsOf Tryz.f7 3) = grommetlaw16_PathOn.T3 := by kernel_rfl
theorem grommetlaw16_PathOn.bits3 : waitsOk grommetlaw16_PathOn.T3.2 grommetlaw16_PathOn.B3 = true := by kernel_rfl
def grommetlaw16_PathOn.T4 : Bool × List (List Nat × List Nat) := (true, [([], []), ([], []), ([1], [1]), ([], []), ([2, 3, 2], [2, 3]), ([4, 4], [4]), ([0, 5, 5], [0, 5]), ([6], [6]), ([7], [7]), ([7], [7]), ([8, 6, 0, 1, 2, 3, 4, 5, 6, 7, 8], [8]), ([9, 10, 0, 1, 2, 3, 4, 5, 6, 7, 8, 9, 10], [9])])
def grommetlaw16_PathOn.B4 : List Nat := [0, 0, 2, 0, 14, 30, 63, 127, 255, 255, 511, 2047]
theorem grommetlaw16_PathOn.tab4 : rtab .any (opsOf Tryz.f7 4) = grommetlaw16_PathOn.T4 := by kernel_rfl
theorem grommetlaw16_PathOn.bits4 : waitsOk grommetlaw16_PathOn.T4.2 grommetlaw16_PathOn.B4 = true := by kernel_rfl
def grommetlaw16_PathOn.T14 : Bool × List (List Nat × List Nat) := (true, [([], []), ([], []), ([1], [1]), ([0, 2, 2], [0, 2]), ([3], [3]), ([4], [4]), ([4], [4]), ([5, 3, 0, 1, 2, 3, 4, 5], [5]), ([6, 7, 0, 1, 2, 3, 4, 5, 6, 7], [6])])
def grommetlaw16_PathOn.B14 : List Nat := [0, 0, 2, 7, 15, 31, 31, 63, 255]
theorem grommetlaw16_PathOn.tab14 : rtab .any (opsOf Tryz.f7 14) = grommetlaw16_PathOn.T14 := by kernel_rfl
theorem grommetlaw16_PathOn.bits14 : waitsOk grommetlaw16_PathOn.T14.2 grommetlaw16_PathOn.B14 = true := by kernel_rfl
theorem qzz0_ {P : Prop} (h_ : P := by repeat (first | (with_reducible first | exact HB.out | apply below_alloc | apply pw_below_drewN | apply below_drew1 | refine below_set ?_ GE101.out) | exact HB.out)) : P := h_
theorem qzz1_ {P : Prop} (h_ : P := by first | ((repeat (first | (with_reducible first | exact HB.out | apply below_alloc | apply pw_below_drewN | apply below_drew1 | (refine Glob.below_set ?_ (by assumption) _ _ _)) | exact HB.out)); done) | (refine Drawn0.below ?_; repeat (first | exact Drawn0.refl _ | assumption | apply Drawn0.step))) : P := h_
theorem qzz2_ {P : Prop} (h_ : P := by (with_reducible repeat (first | refine blk_drewN ?_ _ | refine blk_drew ?_ | refine blk_alloc ?_ _)); exact BK101.out) : P := h_
theorem qzz3_ {P : Prop} (h_ : P := by (with_reducible repeat (first | apply Kd.R_alloc | apply Kd.R_drewN | apply Kd.R_drew)); exact HO108.out) : P := h_
theorem qzz4_ {P : Prop} (h_ : P := by (try simp only [List.map_toArray, List.map_cons, List.map_nil]); first | done | rfl | (simp only [List.length_drop, List.length_take]; rfl)) : P := h_
theorem qzz5_ {P : Prop} (h_ : P := by (with_reducible repeat (first | apply Kd.R_alloc | apply Kd.R_drewN | apply Kd.R_drew)); exact HO119.out) : P := h_
theorem qzz6_ {P : Prop} (h_ : P := by (with_reducible repeat (first | apply Kd.R_alloc | apply Kd.R_drewN | apply Kd.R_drew)); exact HO116.out) : P := h_
theorem qzz7_ {P : Prop} (h_ : P := by repeat (first | (with_reducible first | exact HB.out | apply below_alloc | apply pw_below_drewN | apply below_drew1 | refine below_set ?_ GE101.out | refine below_set ?_ GE129.out) | exact HB.out)) : P := h_
theorem qzz8_ {P : Prop} (h_ : P := by (with_reducible repeat (first | apply Kd.R_alloc | apply Kd.R_drewN | apply Kd.R_drew)); exact HO124.out) : P := h_
theorem qzz9_ {P : Prop} (h_ : P := by (with_reducible repeat (first | refine blk_drewN ?_ _ | refine blk_drew ?_ | refine blk_alloc ?_ _)); refine blk_put (cs := #[.slice A0_0 l0_0.length c0_0, .int .i64 a0_1]) ?_ 1 _ rfl; (with_reducible repeat (first | refine blk_drewN ?_ _ | refine blk_drew ?_ | refine blk_alloc ?_ _)); refine blk_put (cs := #[.slice A0_0 l0_0.length c0_0, .int .i64 0]) ?_ 1 _ rfl; (with_reducible repeat (first | refine blk_drewN ?_ _ | refine blk_drew ?_ | refine blk_alloc ?_ _)); refine blk_put (cs := #[.slice none 0 0, .int .i64 0]) ?_ 0 _ rfl; (with_reducible repeat (first | refine blk_drewN ?_ _ | refine blk_drew ?_ | refine blk_alloc ?_ _)); exact BK129.out) : P := h_
theorem qzz10_ {P : Prop} (h_ : P := by (with_reducible repeat (first | apply Kd.R_alloc | apply Kd.R_drewN | apply Kd.R_drew)); exact HO113.out) : P := h_
theorem qzz11_ {P : Prop} (h_ : P := by (with_reducible repeat (first | refine blk_drewN ?_ _ | refine blk_drew ?_ | refine blk_alloc ?_ _)); refine blk_far ?_ NB101_129.out _; (with_reducible repeat (first | refine blk_drewN ?_ _ | refine blk_drew ?_ | refine blk_alloc ?_ _)); refine blk_far ?_ NB101_129.out _; (with_reducible repeat (first | refine blk_drewN ?_ _ | refine blk_drew ?_ | refine blk_alloc ?_ _)); refine blk_far ?_ NB101_129.out _; (with_reducible repeat (first | refine blk_drewN ?_ _ | refine blk_drew ?_ | refine blk_alloc ?_ _)); exact BK101.out) : P := h_
theorem qzz12_ {P : Prop} (h_ : P := by (with_reducible repeat (first | apply Kd.R_alloc | apply Kd.R_drewN | apply Kd.R_drew)); exact (Kd.R_mono (Kd.R_far (p := ⟨gb129, 1, none⟩) (Kd.R_far (p := ⟨gb129, 1, none⟩) (Kd.R_far (p := ⟨gb129, 0, none⟩) (Kd.R_types HO124.out BK129.out (by decide)) (fun _ hk => hk.2) (.slice A0_0 l0_0.length c0_0)) (fun _ hk => hk.2) (.int .i64 a0_1)) (fun _ hk => hk.2) (.int .i64 t109)) (fun _ h_ => h_.1))) : P := h_
theorem qzz13_ {P : Prop} (h_ : P := by (with_reducible repeat (first | apply Kd.R_alloc | apply Kd.R_drewN | apply Kd.R_drew)); exact (Kd.R_mono (Kd.R_far (p := ⟨gb129, 1, none⟩) (Kd.R_far (p := ⟨gb129, 1, none⟩) (Kd.R_far (p := ⟨gb129, 0, none⟩) (Kd.R_types HO119.out BK129.out (by decide)) (fun _ hk => hk.2) (.slice A0_0 l0_0.length c0_0)) (fun _ hk => hk.2) (.int .i64 a0_1)) (fun _ hk => hk.2) (.int .i64 t109)) (fun _ h_ => h_.1))) : P := h_
theorem qzz14_ {P : Prop} (h_ : P := by (with_reducible repeat (first | apply Kd.R_alloc | apply Kd.R_drewN | apply Kd.R_drew)); exact (Kd.R_mono (Kd.R_far (p := ⟨gb129, 1, none⟩) (Kd.R_far (p := ⟨gb129, 1, none⟩) (Kd.R_far (p := ⟨gb129, 0, none⟩) (Kd.R_types HO116.out BK129.out (by decide)) (fun _ hk => hk.2) (.slice A0_0 l0_0.length c0_0)) (fun _ hk => hk.2) (.int .i64 a0_1)) (fun _ hk => hk.2) (.int .i64 t109)) (fun _ h_ => h_.1))) : P := h_
theorem qzz15_ {P : Prop} (h_ : P := by (with_reducible repeat (first | apply Kd.R_alloc | apply Kd.R_drewN | apply Kd.R_drew)); exact (Kd.R_mono (Kd.R_far (p := ⟨gb129, 1, none⟩) (Kd.R_far (p := ⟨gb129, 1, none⟩) (Kd.R_far (p := ⟨gb129, 0, none⟩) (Kd.R_types HO108.out BK129.out (by decide)) (fun _ hk => hk.2) (.slice A0_0 l0_0.length c0_0)) (fun _ hk => hk.2) (.int .i64 a0_1)) (fun _ hk => hk.2) (.int .i64 t109)) (fun _ h_ => h_.1))) : P := h_
theorem qzz16_ {P : Prop} (h_ : P := by first | rfl | (simp [errW_none, errW_some] <;> rfl) | (simp [*, errW_none, errW_some] <;> rfl)) : P := h_
theorem qzz17_ {P : Prop} (h_ : P := by (with_reducible repeat (first | refine blk_drewN ?_ _ | refine blk_drew ?_ | refine blk_alloc ?_ _)); exact BK129.out) : P := h_
theorem qzz18_ {P : Prop} (h_ : P := by (with_reducible repeat (first | apply Kd.R_alloc | apply Kd.R_drewN | apply Kd.R_drew)); exact HO133.out) : P := h_
theorem qzz19_ {P : Prop} (h_ : P := by repeat (first | (with_reducible first | exact HB.out | apply below_alloc | apply pw_below_drewN | apply below_drew1) | exact HB.out)) : P := h_
theorem qzz20_ {P : Prop} (h_ : P := by first | rfl | (simp; done) | (simp [*]; done)) : P := h_
theorem qzz21_ {P : Prop} (h_ : P := by intro w'; go_simp; with_reducible rfl) : P := h_
theorem qzz22_ {P : Prop} (h_ : P := by simp only [Act.put, List.setIfInBounds_toArray, List.set_cons_zero, List.set_cons_succ, i64_w, i32_w]; rfl) : P := h_
theorem qzz23_ {P : Prop} (h_ : P := by rintro w' ⟨s0, s1⟩; go_simp; with_reducible rfl) : P := h_
set_option maxHeartbeats 8000000 in
set_option maxRecDepth 100000 in
theorem grommetlaw16_PathOn.calls (k : Nat) (A0_0 : Option Addr) (c0_0 : Nat) (l0_0 : List (S45)) (a0_1 : Int) (A1 : Option Addr) (c1 : Nat) (l1 : List (S58)) (A2 : Option Addr) (c2 : Nat) (l2 : List (S58)) (r : Bool) (w : World) (hr0_0 : Kd.C k45 w A0_0 l0_0.length l0_0) (hc0_0 : l0_0.length ≤ c0_0) (hr1 : Kd.C k58 w A1 l1.length l1) (hc1 : l1.length ≤ c1) (hr2 : Kd.C k58 w A2 l2.length l2) (hc2 : l2.length ≤ c2) (hG : Glob.G w) (h : grommetlaw16_PathOn.f k l0_0 a0_1 l1 l2 = some r) :
  Calls Tryz.prog 7 #[.agg #[.slice A0_0 l0_0.length c0_0, .int .i64 a0_1], .slice A1 l1.length c1, .slice A2 l2.length c2] w fun e w' => e = .returned (.bool r) ∧ Below w.heap.size w w' := by
 have hu24 := Tryz.underlying24
 have HR0_0 := Aside0.mk hr0_0
 have HC0_0 := Aside0.mk hc0_0
 clear hr0_0 hc0_0
 have HR1 := Aside0.mk hr1
 have HC1 := Aside0.mk hc1
 clear hr1 hc1
 have HR2 := Aside0.mk hr2
 have HC2 := Aside0.mk hc2
 clear hr2 hc2
 have HB := Aside0.mk (Below.refl w.heap.size w)
 have H : ((grommetlaw16_large.f k l0_0 a0_1).bind fun t102 => (if t102 = true then (grommetlaw16_PathOn.j0 k l1 l2 true l0_0 a0_1) else ((grommetlaw16_long.f k l1).bind fun t103 => (if t103 = true then (grommetlaw16_PathOn.j0 k l1 l2 true l0_0 a0_1) else ((grommetlaw16_long.f k l2).bind fun t104 => (if t104 = true then (grommetlaw16_PathOn.j0 k l1 l2 true l0_0 a0_1) else (grommetlaw16_PathOn.j0 k l1 l2 (decide ((wrap64 ((l1.length : Int) + (l2.length : Int))) > 64)) l0_0 a0_1))))))) = some r := h
 clear h
 have HC4 := Aside0.mk H
 clear H
 go_enter Tryz.func7, Tryz.ntmps7
 go_upto_region 1 with (first | ((with_reducible refine gate_dst (N := 3) rfl ?_); (try (refine gate_guard (by rfl) ?_; dsimp only)); refine box_event ?hg (N := 3) ?hd (cs := #[.slice A0_0 l0_0.length c0_0, .int .i64 a0_1]) (t := 24) ?hr ?_; (case hd => rfl); (case hg => rfl); (case hr => first | (go_simp; done) | (go_simp; rfl)); intro gb101 hg w5 hbox hb; have n0_ := Aside0.mk (below_step (qzz19_) hb); have n1_ := Aside0.mk (hbox); have n2_ := Aside0.mk ((by rw [hg]; exact (below_size (qzz19_)) : w.heap.size ≤ gb101)); have n3_ := Aside0.mk ((by rw [hg]; exact (below_size (qzz19_)) : w.heap.size ≤ gb101)); clear HB; have HB := n0_; have BK101 := n1_; have GW101 := n2_; have GE101 := n3_; clear n0_ n1_ n2_ n3_; clear hb hbox hg))
 (try simp only [Act.put, List.setIfInBounds_toArray, List.set_cons_zero, List.set_cons_succ])
 go_cut [33] (fun v33 wc => ∃ (kq : Nat) (x33_3 : Bool), v33 = .bool x33_3 ∧ Aside0 (grommetlaw16_PathOn.j0 kq l1 l2 x33_3 l0_0 a0_1 = some r) ∧ Aside0 (kq ≤ k) ∧ Aside0 (wc.heap[gb101]? = some (.cells #[(.slice A0_0 l0_0.length c0_0), .int .i64 a0_1] 24 (0, 0))) ∧ Aside0 (Below w.heap.size w wc))
 case first =>
  have H := HC4.out
  clear HC4
  replace H := Option.bind_eq_some_iff.mp H
  obtain ⟨t102, A60, H⟩ := H
  replace H : (if t102 = true then (grommetlaw16_PathOn.j0 k l1 l2 true l0_0 a0_1) else ((grommetlaw16_long.f k l1).bind fun t103 => (if t103 = true then (grommetlaw16_PathOn.j0 k l1 l2 true l0_0 a0_1) else ((grommetlaw16_long.f k l2).bind fun t104 => (if t104 = true then (grommetlaw16_PathOn.j0 k l1 l2 true l0_0 a0_1) else (grommetlaw16_PathOn.j0 k l1 l2 (decide ((wrap64 ((l1.length : Int) + (l2.length : Int))) > 64)) l0_0 a0_1)))))) = some r := H
  have A6 := Aside0.mk A60
  clear A60
  by_cases c7 : t102 = true
  ·
   subst c7
   have H1 : (grommetlaw16_PathOn.j0 k l1 l2 true l0_0 a0_1) = some r := by rw [if_pos rfl] at H; exact H
   clear H
   have H := H1
   clear H1
   have H' := Aside0.mk H
   clear H
   have hcz8_0 : w5.cell? ⟨gb101, 0, none⟩ = some (.slice A0_0 l0_0.length c0_0) := (blk_cell BK101.out 0).trans rfl
   have hcz8_1 : w5.cell? ⟨gb101, 1, none⟩ = some (.int .i64 a0_1) := (blk_cell BK101.out 1).trans rfl
   have hfz8_0 := blk_frozen BK101.out 0
   have hfz8_1 := blk_frozen BK101.out 1
   go_wp2_with (first | ((with_reducible refine gate_callee (f := 22) rfl ?_); refine goesL_ (some 17) rfl rfl Tryz.func22 (by kernel_rfl) rfl #[.agg #[.slice A0_0 l0_0.length c0_0, .int .i64 a0_1]] rfl (qzz4_) ?_; (with_reducible refine (grommetlaw16_large.calls k _ _ l0_0 a0_1 true _ ?side1 ?side2 (hG.below (qzz1_)) A6.out).mono ?_); (case side1 => repeat (first | exact (Kd.C_below HR0_0.out HB.out) | (with_reducible refine Kd.C_alloc ?_ _) | (with_reducible refine Kd.C_drewN ?_ _) | (with_reducible refine Kd.C_drew ?_))); (case side2 => exact HC0_0.out); rintro e w9 ⟨rfl, hb⟩; refine ⟨_, rfl, ?_⟩; have n0_ := Aside0.mk (blk_below (g := gb101) (o := .cells #[.slice A0_0 l0_0.length c0_0, .int .i64 a0_1] 24 (0, 0)) (qzz2_) hb); have n1_ := Aside0.mk (below_step (qzz0_) hb); clear BK101; clear HB; have BK101 := n0_; have HB := n1_; clear n0_ n1_; (try clear hb); (try clear hk)))
   go_meet
   case rel => exact ⟨_, (true), (qzz20_), H', ⟨by first | omega | exact Nat.le_refl _⟩, ⟨qzz2_⟩, ⟨qzz0_⟩⟩
  replace c7 := Bool.eq_false_iff.mpr c7
  subst c7
  have H1 : ((grommetlaw16_long.f k l1).bind fun t103 => (if t103 = true then (grommetlaw16_PathOn.j0 k l1 l2 true l0_0 a0_1) else ((grommetlaw16_long.f k l2).bind fun t104 => (if t104 = true then (grommetlaw16_PathOn.j0 k l1 l2 true l0_0 a0_1) else (grommetlaw16_PathOn.j0 k l1 l2 (decide ((wrap64 ((l1.length : Int) + (l2.length : Int))) > 64)) l0_0 a0_1))))) = some r := by rw [if_neg (show ¬ (false = true) by decide)] at H; exact H
  clear H
  have H := H1
  clear H1
  replace H := Option.bind_eq_some_iff.mp H
  obtain ⟨t103, A100, H⟩ := H
  replace H : (if t103 = true then (grommetlaw16_PathOn.j0 k l1 l2 true l0_0 a0_1) else ((grommetlaw16_long.f k l2).bind fun t104 => (if t104 = true then (grommetlaw16_PathOn.j0 k l1 l2 true l0_0 a0_1) else (grommetlaw16_PathOn.j0 k l1 l2 (decide ((wrap64 ((l1.length : Int) + (l2.length : Int))) > 64)) l0_0 a0_1)))) = some r := H
  have A10 := Aside0.mk A100
  clear A100
  by_cases c11 : t103 = true
  ·
   subst c11
   have H1 : (grommetlaw16_PathOn.j0 k l1 l2 true l0_0 a0_1) = some r := by rw [if_pos rfl] at H; exact H
   clear H
   have H := H1
   clear H1
   have H' := Aside0.mk H
   clear H
   have hcz12_0 : w5.cell? ⟨gb101, 0, none⟩ = some (.slice A0_0 l0_0.length c0_0) := (blk_cell BK101.out 0).trans rfl
   have hcz12_1 : w5.cell? ⟨gb101, 1, none⟩ = some (.int .i64 a0_1) := (blk_cell BK101.out 1).trans rfl
   have hfz12_0 := blk_frozen BK101.out 0
   have hfz12_1 := blk_frozen BK101.out 1
   go_wp2_with (first | ((with_reducible refine gate_callee (f := 22) rfl ?_); refine goesL_ (some 17) rfl rfl Tryz.func22 (by kernel_rfl) rfl #[.agg #[.slice A0_0 l0_0.length c0_0, .int .i64 a0_1]] rfl (qzz4_) ?_; (with_reducible refine (grommetlaw16_large.calls k _ _ l0_0 a0_1 false _ ?side1 ?side2 (hG.below (qzz1_)) A6.out).mono ?_); (case side1 => repeat (first | exact (Kd.C_below HR0_0.out HB.out) | (with_reducible refine Kd.C_alloc ?_ _) | (with_reducible refine Kd.C_drewN ?_ _) | (with_reducible refine Kd.C_drew ?_))); (case side2 => exact HC0_0.out); rintro e w13 ⟨rfl, hb⟩; refine ⟨_, rfl, ?_⟩; have n0_ := Aside0.mk (blk_below (g := gb101) (o := .cells #[.slice A0_0 l0_0.length c0_0, .int .i64 a0_1] 24 (0, 0)) (qzz2_) hb); have n1_ := Aside0.mk (below_step (qzz0_) hb); clear BK101; clear HB; have BK101 := n0_; have HB := n1_; clear n0_ n1_; (try clear hb); (try clear hk)) | (go_at_call 23; (with_reducible refine (grommetlaw16_long.calls k _ _ l1 true _ ?side1 ?side2 (hG.below (qzz1_)) A10.out).mono ?_); (case side1 => repeat (first | exact (Kd.C_below HR1.out HB.out) | (with_reducible refine Kd.C_alloc ?_ _) | (with_reducible refine Kd.C_drewN ?_ _) | (with_reducible refine Kd.C_drew ?_))); (case side2 => exact HC1.out); rintro e w14 ⟨rfl, hb⟩; have n0_ := Aside0.mk (blk_below (g := gb101) (o := .cells #[.slice A0_0 l0_0.length c0_0, .int .i64 a0_1] 24 (0, 0)) (qzz2_) hb); have n1_ := Aside0.mk (below_step (qzz0_) hb); clear BK101; clear HB; have BK101 := n0_; have HB := n1_; clear n0_ n1_; (try clear hb); (try clear hk)))
   go_meet
   case rel => exact ⟨_, (true), (qzz20_), H', ⟨by first | omega | exact Nat.le_refl _⟩, ⟨qzz2_⟩, ⟨qzz0_⟩⟩
  replace c11 := Bool.eq_false_iff.mpr c11
  subst c11
  have H1 : ((grommetlaw16_long.f k l2).bind fun t104 => (if t104 = true then (grommetlaw16_PathOn.j0 k l1 l2 true l0_0 a0_1) else (grommetlaw16_PathOn.j0 k l1 l2 (decide ((wrap64 ((l1.length : Int) + (l2.length : Int))) > 64)) l0_0 a0_1))) = some r := by rw [if_neg (show ¬ (false = true) by decide)] at H; exact H
  clear H
  have H := H1
  clear H1
  replace H := Option.bind_eq_some_iff.mp H
  obtain ⟨t104, A150, H⟩ := H
  replace H : (if t104 = true then (grommetlaw16_PathOn.j0 k l1 l2 true l0_0 a0_1) else (grommetlaw16_PathOn.j0 k l1 l2 (decide ((wrap64 ((l1.length : Int) + (l2.length : Int))) > 64)) l0_0 a0_1)) = some r := H
  have A15 := Aside0.mk A150
  clear A150
  by_cases c16 : t104 = true
  ·
   subst c16
   have H1 : (grommetlaw16_PathOn.j0 k l1 l2 true l0_0 a0_1) = some r := by rw [if_pos rfl] at H; exact H
   clear H
   have H := H1
   clear H1
   have H' := Aside0.mk H
   clear H
   have hcz17_0 : w5.cell? ⟨gb101, 0, none⟩ = some (.slice A0_0 l0_0.length c0_0) := (blk_cell BK101.out 0).trans rfl
   have hcz17_1 : w5.cell? ⟨gb101, 1, none⟩ = some (.int .i64 a0_1) := (blk_cell BK101.out 1).trans rfl
   have hfz17_0 := blk_frozen BK101.out 0
   have hfz17_1 := blk_frozen BK101.out 1
   go_wp2_with (first | ((with_reducible refine gate_callee (f := 22) rfl ?_); refine goesL_ (some 17) rfl rfl Tryz.func22 (by kernel_rfl) rfl #[.agg #[.slice A0_0 l0_0.length c0_0, .int .i64 a0_1]] rfl (qzz4_) ?_; (with_reducible refine (grommetlaw16_large.calls k _ _ l0_0 a0_1 false _ ?side1 ?side2 (hG.below (qzz1_)) A6.out).mono ?_); (case side1 => repeat (first | exact (Kd.C_below HR0_0.out HB.out) | (with_reducible refine Kd.C_alloc ?_ _) | (with_reducible refine Kd.C_drewN ?_ _) | (with_reducible refine Kd.C_drew ?_))); (case side2 => exact HC0_0.out); rintro e w18 ⟨rfl, hb⟩; refine ⟨_, rfl, ?_⟩; have n0_ := Aside0.mk (blk_below (g := gb101) (o := .cells #[.slice A0_0 l0_0.length c0_0, .int .i64 a0_1] 24 (0, 0)) (qzz2_) hb); have n1_ := Aside0.mk (below_step (qzz0_) hb); clear BK101; clear HB; have BK101 := n0_; have HB := n1_; clear n0_ n1_; (try clear hb); (try clear hk)) | (go_at_call 23; (with_reducible refine (grommetlaw16_long.calls k _ _ l1 false _ ?side1 ?side2 (hG.below (qzz1_)) A10.out).mono ?_); (case side1 => repeat (first | exact (Kd.C_below HR1.out HB.out) | (with_reducible refine Kd.C_alloc ?_ _) | (with_reducible refine Kd.C_drewN ?_ _) | (with_reducible refine Kd.C_drew ?_))); (case side2 => exact HC1.out); rintro e w19 ⟨rfl, hb⟩; have n0_ := Aside0.mk (blk_below (g := gb101) (o := .cells #[.slice A0_0 l0_0.length c0_0, .int .i64 a0_1] 24 (0, 0)) (qzz2_) hb); have n1_ := Aside0.mk (below_step (qzz0_) hb); clear BK101; clear HB; have BK101 := n0_; have HB := n1_; clear n0_ n1_; (try clear hb); (try clear hk)) | (go_at_call 23; (with_reducible refine (grommetlaw16_long.calls k _ _ l2 true _ ?side1 ?side2 (hG.below (qzz1_)) A15.out).mono ?_); (case side1 => repeat (first | exact (Kd.C_below HR2.out HB.out) | (with_reducible refine Kd.C_alloc ?_ _) | (with_reducible refine Kd.C_drewN ?_ _) | (with_reducible refine Kd.C_drew ?_))); (case side2 => exact HC2.out); rintro e w20 ⟨rfl, hb⟩; have n0_ := Aside0.mk (blk_below (g := gb101) (o := .cells #[.slice A0_0 l0_0.length c0_0, .int .i64 a0_1] 24 (0, 0)) (qzz2_) hb); have n1_ := Aside0.mk (below_step (qzz0_) hb); clear BK101; clear HB; have BK101 := n0_; have HB := n1_; clear n0_ n1_; (try clear hb); (try clear hk)))
   go_meet
   case rel => exact ⟨_, (true), (qzz20_), H', ⟨by first | omega | exact Nat.le_refl _⟩, ⟨qzz2_⟩, ⟨qzz0_⟩⟩
  replace c16 := Bool.eq_false_iff.mpr c16
  subst c16
  have H1 : (grommetlaw16_PathOn.j0 k l1 l2 (decide ((wrap64 ((l1.length : Int) + (l2.length : Int))) > 64)) l0_0 a0_1) = some r := by rw [if_neg (show ¬ (false = true) by decide)] at H; exact H
  clear H
  have H := H1
  clear H1
  have H' := Aside0.mk H
  clear H
  have hcz21_0 : w5.cell? ⟨gb101, 0, none⟩ = some (.slice A0_0 l0_0.length c0_0) := (blk_cell BK101.out 0).trans rfl
  have hcz21_1 : w5.cell? ⟨gb101, 1, none⟩ = some (.int .i64 a0_1) := (blk_cell BK101.out 1).trans rfl
  have hfz21_0 := blk_frozen BK101.out 0
  have hfz21_1 := blk_frozen BK101.out 1
  go_wp2_with (first | ((with_reducible refine gate_callee (f := 22) rfl ?_); refine goesL_ (some 17) rfl rfl Tryz.func22 (by kernel_rfl) rfl #[.agg #[.slice A0_0 l0_0.length c0_0, .int .i64 a0_1]] rfl (qzz4_) ?_; (with_reducible refine (grommetlaw16_large.calls k _ _ l0_0 a0_1 false _ ?side1 ?side2 (hG.below (qzz1_)) A6.out).mono ?_); (case side1 => repeat (first | exact (Kd.C_below HR0_0.out HB.out) | (with_reducible refine Kd.C_alloc ?_ _) | (with_reducible refine Kd.C_drewN ?_ _) | (with_reducible refine Kd.C_drew ?_))); (case side2 => exact HC0_0.out); rintro e w22 ⟨rfl, hb⟩; refine ⟨_, rfl, ?_⟩; have n0_ := Aside0.mk (blk_below (g := gb101) (o := .cells #[.slice A0_0 l0_0.length c0_0, .int .i64 a0_1] 24 (0, 0)) (qzz2_) hb); have n1_ := Aside0.mk (below_step (qzz0_) hb); clear BK101; clear HB; have BK101 := n0_; have HB := n1_; clear n0_ n1_; (try clear hb); (try clear hk)) | (go_at_call 23; (with_reducible refine (grommetlaw16_long.calls k _ _ l1 false _ ?side1 ?side2 (hG.below (qzz1_)) A10.out).mono ?_); (case side1 => repeat (first | exact (Kd.C_below HR1.out HB.out) | (with_reducible refine Kd.C_alloc ?_ _) | (with_reducible refine Kd.C_drewN ?_ _) | (with_reducible refine Kd.C_drew ?_))); (case side2 => exact HC1.out); rintro e w23 ⟨rfl, hb⟩; have n0_ := Aside0.mk (blk_below (g := gb101) (o := .cells #[.slice A0_0 l0_0.length c0_0, .int .i64 a0_1] 24 (0, 0)) (qzz2_) hb); have n1_ := Aside0.mk (below_step (qzz0_) hb); clear BK101; clear HB; have BK101 := n0_; have HB := n1_; clear n0_ n1_; (try clear hb); (try clear hk)) | (go_at_call 23; (with_reducible refine (grommetlaw16_long.calls k _ _ l2 false _ ?side1 ?side2 (hG.below (qzz1_)) A15.out).mono ?_); (case side1 => repeat (first | exact (Kd.C_below HR2.out HB.out) | (with_reducible refine Kd.C_alloc ?_ _) | (with_reducible refine Kd.C_drewN ?_ _) | (with_reducible refine Kd.C_drew ?_))); (case side2 => exact HC2.out); rintro e w24 ⟨rfl, hb⟩; have n0_ := Aside0.mk (blk_below (g := gb101) (o := .cells #[.slice A0_0 l0_0.length c0_0, .int .i64 a0_1] 24 (0, 0)) (qzz2_) hb); have n1_ := Aside0.mk (below_step (qzz0_) hb); clear BK101; clear HB; have BK101 := n0_; have HB := n1_; clear n0_ n1_; (try clear hb); (try clear hk)))
  go_meet
  case rel => exact ⟨_, (decide ((wrap64 ((l1.length : Int) + (l2.length : Int))) > 64)), (qzz20_), H', ⟨by first | omega | exact Nat.le_refl _⟩, ⟨qzz2_⟩, ⟨qzz0_⟩⟩
 case rest =>
  clear HC4
  try clear c1
  try clear c2
  try clear p2
  try clear p6
  try clear c7
  try clear c11
  try clear c16
  try clear c22
  try clear hcz12_0
  try clear hcz12_1
  try clear hcz17_0
  try clear hcz17_1
  try clear hcz21_0
  try clear hcz21_1
  try clear hcz8_0
  try clear hcz8_1
  try clear hfz12_0
  try clear hfz12_1
  try clear hfz17_0
  try clear hfz17_1
  try clear hfz21_0
  try clear hfz21_1
  try clear hfz8_0
  try clear hfz8_1
  obtain ⟨kq, x33_3, rfl, HA, HJ3, BK101, HB⟩ := hcut
  cases kq with
  | zero => exact absurd HA.out (by simp [grommetlaw16_PathOn.j0])
  | succ kj3 =>
   have H := HA.out
   clear HA
   simp only [grommetlaw16_PathOn.j0] at H
   by_cases c25 : x33_3 = true
   ·
    subst c25
    have H1 : ((grommetlaw16_alive.f).bind fun t105 => (some t105)) = some r := by rw [if_pos rfl] at H; exact H
    clear H
    have H := H1
    clear H1
    replace H := Option.bind_eq_some_iff.mp H
    obtain ⟨t105, A260, H⟩ := H
    replace H : (some t105) = some r := H
    have A26 := Aside0.mk A260
    clear A260
    obtain rfl := Option.some.inj H
    go_wp2_with (first | ((with_reducible refine gate_callee (f := 24) rfl ?_); refine goesL_ (some 34) rfl rfl Tryz.func24 (by kernel_rfl) rfl #[] rfl (qzz4_) ?_; (with_reducible refine (grommetlaw16_alive.calls  t105 _ (hG.below (qzz1_)) A26.out).mono ?_); rintro e w27 ⟨rfl, hb⟩; refine ⟨_, rfl, ?_⟩; have n0_ := Aside0.mk (blk_below (g := gb101) (o := .cells #[.slice A0_0 l0_0.length c0_0, .int .i64 a0_1] 24 (0, 0)) (qzz2_) hb); have n1_ := Aside0.mk (below_step (qzz0_) hb); clear BK101; clear HB; have BK101 := n0_; have HB := n1_; clear n0_ n1_; (try clear hb); (try clear hk)))
    go_ret
    exact ⟨qzz16_, qzz0_⟩
   replace c25 := Bool.eq_false_iff.mpr c25
   subst c25
   have H1 : ((grommetlaw16_theirs.f kj3 l1).bind fun t106 => ((path_Get.f kj3 l0_0 a0_1 t106).bind fun bt109 => (if ([] : List (S58)).length + l1.length < 4398046511104 then ((some (([] : List (S58)) ++ l1 : List (S58))).bind fun y111 => (if y111.length + l2.length < 4398046511104 then ((grommetlaw16_theirs.f kj3 (y111 ++ l2)).bind fun t117 => ((path_Get.f kj3 l0_0 a0_1 t117).bind fun bt120 => ((grommetlaw16_theirs.f kj3 l2).bind fun t122 => ((path_Format.f t122).bind fun bt125 => (if bt125.2 = 0 then (if bt109.2 = 0 then ((graph_Right.f l0_0 bt109.1).bind fun t130 => (if t130 = true then ((grommetlaw16_theirs.f kj3 l2).bind fun t131 => ((path_Get.f kj3 l0_0 bt109.1 t131).bind fun bt134 => (if bt134.1 = bt120.1 then (if bt134.2 = bt120.2 then ((grommetlaw16_alive.f).bind fun t136 => (some t136)) else (some false)) else (some false)))) else (some false))) else (if bt109.2 = bt120.2 then (if bt109.1 = 0 then (if bt120.1 = 0 then ((grommetlaw16_alive.f).bind fun t128 => (some t128)) else (some false)) else (some false)) else (some false))) else (if bt120.2 = 1 then ((grommetlaw16_alive.f).bind fun t127 => (some t127)) else (some false))))))) else (none))) else (none)))) = some r := by rw [if_neg (show ¬ (false = true) by decide)] at H; exact H
   clear H
   have H := H1
   clear H1
   replace H := Option.bind_eq_some_iff.mp H
   obtain ⟨t106, A280, H⟩ := H
   replace H : ((path_Get.f kj3 l0_0 a0_1 t106).bind fun bt109 => (if ([] : List (S58)).length + l1.length < 4398046511104 then ((some (([] : List (S58)) ++ l1 : List (S58))).bind fun y111 => (if y111.length + l2.length < 4398046511104 then ((grommetlaw16_theirs.f kj3 (y111 ++ l2)).bind fun t117 => ((path_Get.f kj3 l0_0 a0_1 t117).bind fun bt120 => ((grommetlaw16_theirs.f kj3 l2).bind fun t122 => ((path_Format.f t122).bind fun bt125 => (if bt125.2 = 0 then (if bt109.2 = 0 then ((graph_Right.f l0_0 bt109.1).bind fun t130 => (if t130 = true then ((grommetlaw16_theirs.f kj3 l2).bind fun t131 => ((path_Get.f kj3 l0_0 bt109.1 t131).bind fun bt134 => (if bt134.1 = bt120.1 then (if bt134.2 = bt120.2 then ((grommetlaw16_alive.f).bind fun t136 => (some t136)) else (some false)) else (some false)))) else (some false))) else (if bt109.2 = bt120.2 then (if bt109.1 = 0 then (if bt120.1 = 0 then ((grommetlaw16_alive.f).bind fun t128 => (some t128)) else (some false)) else (some false)) else (some false))) else (if bt120.2 = 1 then ((grommetlaw16_alive.f).bind fun t127 => (some t127)) else (some false))))))) else (none))) else (none))) = some r := H
   have A28 := Aside0.mk A280
   clear A280
   replace H := Option.bind_eq_some_iff.mp H
   obtain ⟨⟨t109, t110⟩, A290, H⟩ := H
   replace H : (if ([] : List (S58)).length + l1.length < 4398046511104 then ((some (([] : List (S58)) ++ l1 : List (S58))).bind fun y111 => (if y111.length + l2.length < 4398046511104 then ((grommetlaw16_theirs.f kj3 (y111 ++ l2)).bind fun t117 => ((path_Get.f kj3 l0_0 a0_1 t117).bind fun bt120 => ((grommetlaw16_theirs.f kj3 l2).bind fun t122 => ((path_Format.f t122).bind fun bt125 => (if bt125.2 = 0 then (if t110 = 0 then ((graph_Right.f l0_0 t109).bind fun t130 => (if t130 = true then ((grommetlaw16_theirs.f kj3 l2).bind fun t131 => ((path_Get.f kj3 l0_0 t109 t131).bind fun bt134 => (if bt134.1 = bt120.1 then (if bt134.2 = bt120.2 then ((grommetlaw16_alive.f).bind fun t136 => (some t136)) else (some false)) else (some false)))) else (some false))) else (if t110 = bt120.2 then (if t109 = 0 then (if bt120.1 = 0 then ((grommetlaw16_alive.f).bind fun t128 => (some t128)) else (some false)) else (some false)) else (some false))) else (if bt120.2 = 1 then ((grommetlaw16_alive.f).bind fun t127 => (some t127)) else (some false))))))) else (none))) else (none)) = some r := H
   have A29 := Aside0.mk A290
   clear A290
   by_cases c30 : ([] : List (S58)).length + l1.length < 4398046511104
   rotate_left
   ·
    rw [if_neg c30] at H
    exact absurd H (by simp)
   rw [if_pos c30] at H
   have LMc30 := Aside0.mk c30
   clear c30
   obtain ⟨y111, hy111⟩ : ∃ y_ : List (S58), y_ = (([] : List (S58)) ++ l1) := ⟨_, rfl⟩
   replace H : (if y111.length + l2.length < 4398046511104 then ((grommetlaw16_theirs.f kj3 (y111 ++ l2)).bind fun t117 => ((path_Get.f kj3 l0_0 a0_1 t117).bind fun bt120 => ((grommetlaw16_theirs.f kj3 l2).bind fun t122 => ((path_Format.f t122).bind fun bt125 => (if bt125.2 = 0 then (if t110 = 0 then ((graph_Right.f l0_0 t109).bind fun t130 => (if t130 = true then ((grommetlaw16_theirs.f kj3 l2).bind fun t131 => ((path_Get.f kj3 l0_0 t109 t131).bind fun bt134 => (if bt134.1 = bt120.1 then (if bt134.2 = bt120.2 then ((grommetlaw16_alive.f).bind fun t136 => (some t136)) else (some false)) else (some false)))) else (some false))) else (if t110 = bt120.2 then (if t109 = 0 then (if bt120.1 = 0 then ((grommetlaw16_alive.f).bind fun t128 => (some t128)) else (some false)) else (some false)) else (some false))) else (if bt120.2 = 1 then ((grommetlaw16_alive.f).bind fun t127 => (some t127)) else (some false))))))) else (none)) = some r := by first | (rw [hy111]; with_reducible exact H) | (have H2_ := (Option.bind_some _ _).symm.trans H; rw [hy111]; with_reducible exact H2_) | (have H2_ := (Option.bind_some _ _).symm.trans H; with_reducible exact H2_) | with_reducible exact H | (rw [hy111]; exact H) | exact H
   have Ny111 := Aside0.mk hy111
   clear hy111
   by_cases c31 : y111.length + l2.length < 4398046511104
   rotate_left
   ·
    rw [if_neg c31] at H
    exact absurd H (by simp)
   rw [if_pos c31] at H
   have LMc31 := Aside0.mk c31
   clear c31
   obtain ⟨y114, hy114⟩ : ∃ y_ : List (S58), y_ = (y111 ++ l2) := ⟨_, rfl⟩
   replace H : ((grommetlaw16_theirs.f kj3 y114).bind fun t117 => ((path_Get.f kj3 l0_0 a0_1 t117).bind fun bt120 => ((grommetlaw16_theirs.f kj3 l2).bind fun t122 => ((path_Format.f t122).bind fun bt125 => (if bt125.2 = 0 then (if t110 = 0 then ((graph_Right.f l0_0 t109).bind fun t130 => (if t130 = true then ((grommetlaw16_theirs.f kj3 l2).bind fun t131 => ((path_Get.f kj3 l0_0 t109 t131).bind fun bt134 => (if bt134.1 = bt120.1 then (if bt134.2 = bt120.2 then ((grommetlaw16_alive.f).bind fun t136 => (some t136)) else (some false)) else (some false)))) else (some false))) else (if t110 = bt120.2 then (if t109 = 0 then (if bt120.1 = 0 then ((grommetlaw16_alive.f).bind fun t128 => (some t128)) else (some false)) else (some false)) else (some false))) else (if bt120.2 = 1 then ((grommetlaw16_alive.f).bind fun t127 => (some t127)) else (some false))))))) = some r := by first | (rw [hy114]; with_reducible exact H) | (have H2_ := (Option.bind_some _ _).symm.trans H; rw [hy114]; with_reducible exact H2_) | (have H2_ := (Option.bind_some _ _).symm.trans H; with_reducible exact H2_) | with_reducible exact H | (rw [hy114]; exact H) | exact H
   have Ny114 := Aside0.mk hy114
   clear hy114
   replace H := Option.bind_eq_some_iff.mp H
   obtain ⟨t117, A320, H⟩ := H
   replace H : ((path_Get.f kj3 l0_0 a0_1 t117).bind fun bt120 => ((grommetlaw16_theirs.f kj3 l2).bind fun t122 => ((path_Format.f t122).bind fun bt125 => (if bt125.2 = 0 then (if t110 = 0 then ((graph_Right.f l0_0 t109).bind fun t130 => (if t130 = true then ((grommetlaw16_theirs.f kj3 l2).bind fun t131 => ((path_Get.f kj3 l0_0 t109 t131).bind fun bt134 => (if bt134.1 = bt120.1 then (if bt134.2 = bt120.2 then ((grommetlaw16_alive.f).bind fun t136 => (some t136)) else (some false)) else (some false)))) else (some false))) else (if t110 = bt120.2 then (if t109 = 0 then (if bt120.1 = 0 then ((grommetlaw16_alive.f).bind fun t128 => (some t128)) else (some false)) else (some false)) else (some false))) else (if bt120.2 = 1 then ((grommetlaw16_alive.f).bind fun t127 => (some t127)) else (some false)))))) = some r := H
   have A32 := Aside0.mk A320
   clear A320
   replace H := Option.bind_eq_some_iff.mp H
   obtain ⟨⟨t120, t121⟩, A330, H⟩ := H
   replace H : ((grommetlaw16_theirs.f kj3 l2).bind fun t122 => ((path_Format.f t122).bind fun bt125 => (if bt125.2 = 0 then (if t110 = 0 then ((graph_Right.f l0_0 t109).bind fun t130 => (if t130 = true then ((grommetlaw16_theirs.f kj3 l2).bind fun t131 => ((path_Get.f kj3 l0_0 t109 t131).bind fun bt134 => (if bt134.1 = t120 then (if bt134.2 = t121 then ((grommetlaw16_alive.f).bind fun t136 => (some t136)) else (some false)) else (some false)))) else (some false))) else (if t110 = t121 then (if t109 = 0 then (if t120 = 0 then ((grommetlaw16_alive.f).bind fun t128 => (some t128)) else (some false)) else (some false)) else (some false))) else (if t121 = 1 then ((grommetlaw16_alive.f).bind fun t127 => (some t127)) else (some false))))) = some r := H
   have A33 := Aside0.mk A330
   clear A330
   replace H := Option.bind_eq_some_iff.mp H
   obtain ⟨t122, A340, H⟩ := H
   replace H : ((path_Format.f t122).bind fun bt125 => (if bt125.2 = 0 then (if t110 = 0 then ((graph_Right.f l0_0 t109).bind fun t130 => (if t130 = true then ((grommetlaw16_theirs.f kj3 l2).bind fun t131 => ((path_Get.f kj3 l0_0 t109 t131).bind fun bt134 => (if bt134.1 = t120 then (if bt134.2 = t121 then ((grommetlaw16_alive.f).bind fun t136 => (some t136)) else (some false)) else (some false)))) else (some false))) else (if t110 = t121 then (if t109 = 0 then (if t120 = 0 then ((grommetlaw16_alive.f).bind fun t128 => (some t128)) else (some false)) else (some false)) else (some false))) else (if t121 = 1 then ((grommetlaw16_alive.f).bind fun t127 => (some t127)) else (some false)))) = some r := H
   have A34 := Aside0.mk A340
   clear A340
   replace H := Option.bind_eq_some_iff.mp H
   obtain ⟨⟨t125, t126⟩, A350, H⟩ := H
   replace H : (if t126 = 0 then (if t110 = 0 then ((graph_Right.f l0_0 t109).bind fun t130 => (if t130 = true then ((grommetlaw16_theirs.f kj3 l2).bind fun t131 => ((path_Get.f kj3 l0_0 t109 t131).bind fun bt134 => (if bt134.1 = t120 then (if bt134.2 = t121 then ((grommetlaw16_alive.f).bind fun t136 => (some t136)) else (some false)) else (some false)))) else (some false))) else (if t110 = t121 then (if t109 = 0 then (if t120 = 0 then ((grommetlaw16_alive.f).bind fun t128 => (some t128)) else (some false)) else (some false)) else (some false))) else (if t121 = 1 then ((grommetlaw16_alive.f).bind fun t127 => (some t127)) else (some false))) = some r := H
   have A35 := Aside0.mk A350
   clear A350
   by_cases c36 : t126 = 0
   rotate_left
   ·
    rw [if_neg c36] at H
    have c36b0 : (t126 == 0) = false := beq_eq_false_iff_ne.mpr c36
    have c36b1 : (t126 != 0) = true := bne_iff_ne.mpr c36
    by_cases c195 : t121 = 1
    rotate_left
    ·
     rw [if_neg c195] at H
     have c195b0 : (t121 == 1) = false := beq_eq_false_iff_ne.mpr c195
     have c195b1 : (t121 != 1) = true := bne_iff_ne.mpr c195
     obtain rfl := Option.some.inj H
     try go_wp2
     have n0_ := Aside0.mk (blk_drew BK101.out)
     have n1_ := Aside0.mk (below_drew1 HB.out)
     clear BK101
     clear HB
     have BK101 := n0_
     have HB := n1_
     clear n0_ n1_
     refine start_ (n := 9) (S := fun w' => w'.cell? ⟨gb101, 0, none⟩ = some (.slice A0_0 l0_0.length c0_0) ∧ w'.cell? ⟨gb101, 1, none⟩ = some (.int .i64 a0_1)) (ds := []) #[false, false, false, false, false, false, false, false, false] (by kernel_rfl) rfl rfl ⟨(blk_cell BK101.out 0).trans rfl, (blk_cell BK101.out 1).trans rfl⟩ (fun hHeld => ?_); refine with_tabW grommetlaw16_PathOn.tab3 grommetlaw16_PathOn.bits3 (fun HT_ HW_ => ?_)
     generalize wc.drew = w212 at BK101 HB hHeld ⊢
     refine pure_ (i := 1) (N := some 37) (v := ?_) (a' := ?_) #[false, true, false, false, false, false, false, false, false] rfl rfl (any_of HT_.out (by kernel_rfl)) (fun _ _ _ h => h) (Or.inl ⟨by rfl, ?_⟩) ?_ ?_
     rotate_left
     exact qzz21_
     rotate_left
     exact qzz22_
     refine take_ (i := 0) (N := some 36) (v := ?_) (a' := ?_) #[true, true, false, false, false, false, false, false, false] rfl rfl (take_ofW HT_.out HW_.out (by kernel_rfl)) (fun _ _ _ h => h) (Or.inl ⟨by rfl, ?_⟩) hHeld ?_ ?_
     rotate_left
     exact qzz23_
     rotate_left
     exact qzz22_
     refine one_ (i := 2) (N := some 38) #[true, true, true, false, false, false, false, false, false] rfl rfl (one_of HT_.out (by kernel_rfl)) (by decide) (fun K hK => ?_)
     refine goes_ Tryz.func26 (by kernel_rfl) rfl #[.slice A1 l1.length c1] (by rfl) rfl rfl (qzz4_) ?_
     with_reducible refine (grommetlaw16_theirs.calls kj3 _ _ l1 t106 _ ?side1 ?side2 (hG.below (qzz1_)) A28.out).mono ?_
     (case side1 => repeat (first | exact (Kd.C_below HR1.out HB.out) | (with_reducible refine Kd.C_alloc ?_ _) | (with_reducible refine Kd.C_drewN ?_ _) | (with_reducible refine Kd.C_drew ?_)))
     (case side2 => exact HC1.out)
     rintro e w213 ⟨v107, rfl, ho0, hb⟩
     refine ⟨_, rfl, ?_⟩
     have n0_ := Aside0.mk (Kd.R_lower ho0 (below_size (qzz0_)))
     have n1_ := Aside0.mk (blk_below (g := gb101) (o := .cells #[.slice A0_0 l0_0.length c0_0, .int .i64 a0_1] 24 (0, 0)) (qzz2_) hb)
     have n2_ := Aside0.mk (below_step (qzz0_) hb)
     clear BK101
     clear HB
     have HO108 := n0_
     have BK101 := n1_
     have HB := n2_
     clear n0_ n1_ n2_
     (try clear hb)
     (try clear hb2)
     (try clear hk)
     (try clear hi)
     (try clear ho0)
     obtain ⟨Ao214, co214, eo214⟩ := Kd.R_slice HO108.out
     (first | subst eo214 | (injection eo214 with f1_ f2_ f3_; have f4_ := f1_.symm; have f5_ := f3_.symm; clear f1_ f2_ f3_; subst f4_; subst f5_))
     refine hK.out _ _ ⟨(blk_cell BK101.out 0).trans rfl, (blk_cell BK101.out 1).trans rfl⟩ (fun hHeld => ?_)
     clear hK K
     refine norm_ (a' := ?_) ?_ ?_
     rotate_left
     ·
      show Act.put _ (some 38) _ = _
      simp only [Act.put, List.setIfInBounds_toArray, List.set_cons_zero, List.set_cons_succ, i64_w, i32_w]
      rfl
     refine one_ (i := 3) (N := some 39) #[true, true, true, true, false, false, false, false, false] rfl rfl (one_of HT_.out (by kernel_rfl)) (by decide) (fun K hK => ?_)
     refine goes_ Tryz.func25 (by kernel_rfl) rfl #[.agg #[.slice A0_0 l0_0.length c0_0, .int .i64 a0_1], .slice Ao214 t106.length co214] (by rfl) rfl rfl (qzz4_) ?_
     with_reducible refine (path_Get.calls kj3 _ _ l0_0 a0_1 _ _ t106 t109 t110 _ ?side1 ?side2 ?side3 ?side4 (hG.below (qzz1_)) A29.out).mono ?_
     (case side1 => repeat (first | exact (Kd.C_below HR0_0.out HB.out) | (with_reducible refine Kd.C_alloc ?_ _) | (with_reducible refine Kd.C_drewN ?_ _) | (with_reducible refine Kd.C_drew ?_)))
     (case side2 => exact HC0_0.out)
     (case side3 => repeat (first | exact (Kd.R_reads' HO108.out).2.2 | (with_reducible refine Kd.C_alloc ?_ _) | (with_reducible refine Kd.C_drewN ?_ _) | (with_reducible refine Kd.C_drew ?_)))
     (case side4 => exact (Kd.R_reads' HO108.out).2.1)
     rintro e w215 ⟨rfl, hb⟩
     refine ⟨_, rfl, ?_⟩
     have n0_ := Aside0.mk (Kd.R_below (qzz3_) hb)
     have n1_ := Aside0.mk (blk_below (g := gb101) (o := .cells #[.slice A0_0 l0_0.length c0_0, .int .i64 a0_1] 24 (0, 0)) (qzz2_) hb)
     have n2_ := Aside0.mk (below_step (qzz0_) hb)
     clear HO108
     clear BK101
     clear HB
     have HO108 := n0_
     have BK101 := n1_
     have HB := n2_
     clear n0_ n1_ n2_
     (try clear hb)
     (try clear hb2)
     (try clear hk)
     (try clear hi)
     refine hK.out _ _ ⟨(blk_cell BK101.out 0).trans rfl, (blk_cell BK101.out 1).trans rfl⟩ (fun hHeld => ?_)
     clear hK K
     refine norm_ (a' := ?_) ?_ ?_
     rotate_left
     ·
      show Act.put _ (some 39) _ = _
      simp only [Act.put, List.setIfInBounds_toArray, List.set_cons_zero, List.set_cons_succ, i64_w, i32_w]
      rfl
     refine pure_ (i := 4) (N := some 35) (v := ?_) (a' := ?_) #[true, true, true, true, true, false, false, false, false] rfl rfl (any_of HT_.out (by kernel_rfl)) (fun _ _ _ h => h) (Or.inl ⟨by rfl, ?_⟩) ?_ ?_
     rotate_left
     exact qzz21_
     rotate_left
     exact qzz22_
     refine pure_ (i := 5) (N := some 40) (v := ?_) (a' := ?_) #[true, true, true, true, true, true, false, false, false] rfl rfl (any_of HT_.out (by kernel_rfl)) (fun _ _ _ h => h) (Or.inl ⟨by rfl, ?_⟩) ?_ ?_
     rotate_left
     exact qzz21_
     rotate_left
     exact qzz22_
     refine pure_ (i := 6) (N := some 41) (v := ?_) (a' := ?_) #[true, true, true, true, true, true, true, false, false] rfl rfl (any_of HT_.out (by kernel_rfl)) (fun _ _ _ h => h) (Or.inl ⟨by rfl, ?_⟩) ?_ ?_
     rotate_left
     exact qzz21_
     rotate_left
     exact qzz22_
     refine pure_ (i := 7) (N := some 7) (v := ?_) (a' := ?_) #[true, true, true, true, true, true, true, true, false] rfl rfl (any_of HT_.out (by kernel_rfl)) (fun _ _ _ h => h) (Or.inl ⟨by rfl, ?_⟩) ?_ ?_
     rotate_left
     exact qzz21_
     rotate_left
     exact qzz22_
     refine pure_ (i := 8) (N := some 8) (v := ?_) (a' := ?_) #[true, true, true, true, true, true, true, true, true] rfl rfl (any_of HT_.out (by kernel_rfl)) (fun _ _ _ h => h) (Or.inl ⟨by rfl, ?_⟩) ?_ ?_
     rotate_left
     exact qzz21_
     rotate_left
     exact qzz22_
     refine done_ (done_of HT_.out (by kernel_rfl)) ?_
     try go_wp2
     have n0_ := Aside0.mk (Kd.R_drew HO108.out)
     have n1_ := Aside0.mk (blk_drew BK101.out)
     have n2_ := Aside0.mk (below_drew1 HB.out)
     clear HO108
     clear BK101
     clear HB
     have HO108 := n0_
     have BK101 := n1_
     have HB := n2_
     clear n0_ n1_ n2_
     refine start_ (n := 12) (S := fun w' => w'.cell? ⟨gb101, 0, none⟩ = some (.slice A0_0 l0_0.length c0_0) ∧ w'.cell? ⟨gb101, 1, none⟩ = some (.int .i64 a0_1)) (ds := []) #[false, false, false, false, false, false, false, false, false, false, false, false] (by kernel_rfl) rfl rfl ⟨(blk_cell BK101.out 0).trans rfl, (blk_cell BK101.out 1).trans rfl⟩ (fun hHeld => ?_); refine with_tabW grommetlaw16_PathOn.tab4 grommetlaw16_PathOn.bits4 (fun HT_ HW_ => ?_)
     generalize w215.drew = w216 at HO108 BK101 HB hHeld ⊢
     refine pure_ (i := 1) (N := some 44) (v := ?_) (a' := ?_) #[false, true, false, false, false, false, false, false, false, false, false, false] rfl rfl (any_of HT_.out (by kernel_rfl)) (fun _ _ _ h => h) (Or.inl ⟨by rfl, ?_⟩) ?_ ?_
     rotate_left
     exact qzz21_
     rotate_left
     exact qzz22_
     refine pure_ (i := 3) (N := some 46) (v := ?_) (a' := ?_) #[false, true, false, true, false, false, false, false, false, false, false, false] rfl rfl (any_of HT_.out (by kernel_rfl)) (fun _ _ _ h => h) (Or.inl ⟨by rfl, ?_⟩) ?_ ?_
     rotate_left
     exact qzz21_
     rotate_left
     exact qzz22_
     refine take_ (i := 0) (N := some 43) (v := ?_) (a' := ?_) #[true, true, false, true, false, false, false, false, false, false, false, false] rfl rfl (take_ofW HT_.out HW_.out (by kernel_rfl)) (fun _ _ _ h => h) (Or.inl ⟨by rfl, ?_⟩) hHeld ?_ ?_
     rotate_left
     exact qzz23_
     rotate_left
     exact qzz22_
     refine one_ (i := 2) (N := some 45) #[true, true, true, true, false, false, false, false, false, false, false, false] rfl rfl (one_of HT_.out (by kernel_rfl)) (by decide) (fun K hK => ?_)
     refine Kd.R_append_rows_step k58 (w0 := w) w.heap.size (by rfl) (.const (.slice none 0 0)) (.tmp 44) 47 58 (.agg #[(.string ⟨#[]⟩), (.int .i64 0), (.bool false)]) 32 rfl Tryz.underlying47 info58 rfl (by decide) (by omega) (.slice none 0 0) ([] : List (S58)) l1 _ _ _ (fun _ => True) (fun _ => False) rfl rfl ?aO ?aR (fun _ _ h => h) (fun _ h => h.elim) ?aF ?aB ?aS ?aL ?_
     (case aR => repeat (first | exact (Kd.C_below HR1.out HB.out) | (with_reducible refine Kd.C_alloc ?_ _) | (with_reducible refine Kd.C_drewN ?_ _) | (with_reducible refine Kd.C_drew ?_)))
     (case aB => exact (qzz0_))
     (case aF => exact (fun _ _ => trivial))
     (case aO => exact ((Kd.R_nil _ _ _ _ (fun _ => True))))
     (case aS => exact (below_size (qzz0_)))
     (case aL => have := LMc30.out; omega)
     intro v112 w217 ho hb hg hat
     rw [← Ny111.out] at ho
     have n0_ := Aside0.mk (blk_grown (g := gb101) (o := .cells #[.slice A0_0 l0_0.length c0_0, .int .i64 a0_1] 24 (0, 0)) (qzz2_) hg (by simp [Value.ownBlock]))
     have n1_ := Aside0.mk (Kd.R_grown (qzz3_) hg (fun _ _ => by simp [Value.ownBlock]))
     have n2_ := Aside0.mk (hb)
     have n3_ := Aside0.mk (ho)
     clear BK101
     clear HO108
     clear HB
     have BK101 := n0_
     have HO108 := n1_
     have HB := n2_
     have HO113 := n3_
     clear n0_ n1_ n2_ n3_
     clear ho hb hg hat
     refine hK.out _ _ ⟨(blk_cell BK101.out 0).trans rfl, (blk_cell BK101.out 1).trans rfl⟩ (fun hHeld => ?_)
     clear hK K
     refine norm_ (a' := ?_) ?_ ?_
     rotate_left
     ·
      show Act.put _ (some 45) _ = _
      simp only [Act.put, List.setIfInBounds_toArray, List.set_cons_zero, List.set_cons_succ, i64_w, i32_w]
      rfl
     refine one_ (i := 4) (N := some 47) #[true, true, true, true, true, false, false, false, false, false, false, false] rfl rfl (one_of HT_.out (by kernel_rfl)) (by decide) (fun K hK => ?_)
     refine Kd.R_append_rows_step k58 (w0 := w) w.heap.size (by rfl) (.tmp 45) (.tmp 46) 47 58 (.agg #[(.string ⟨#[]⟩), (.int .i64 0), (.bool false)]) 32 rfl Tryz.underlying47 info58 rfl (by decide) (by omega) v112 y111 l2 _ _ _ (fun _ => True) (fun _ => False) rfl rfl ?aO ?aR (fun _ _ h => h) (fun _ h => h.elim) ?aF ?aB ?aS ?aL ?_
     (case aR => repeat (first | exact (Kd.C_below HR2.out HB.out) | (with_reducible refine Kd.C_alloc ?_ _) | (with_reducible refine Kd.C_drewN ?_ _) | (with_reducible refine Kd.C_drew ?_)))
     (case aB => exact (qzz0_))
     (case aF => exact (fun _ _ => trivial))
     (case aO => exact (qzz10_))
     (case aS => exact (below_size (qzz0_)))
     (case aL => have := LMc31.out; omega)
     intro v115 w218 ho hb hg hat
     rw [← Ny114.out] at ho
     have n0_ := Aside0.mk (blk_grown (g := gb101) (o := .cells #[.slice A0_0 l0_0.length c0_0, .int .i64 a0_1] 24 (0, 0)) (qzz2_) hg (Kd.R_ne HO113.out BK101.out (by decide)))
     have n1_ := Aside0.mk (Kd.R_over' (qzz3_) (Kd.R_typed (qzz10_)) (by decide) hg)
     have n2_ := Aside0.mk (hb)
     have n3_ := Aside0.mk (ho)
     clear BK101
     clear HO108
     clear HB
     clear HO113
     have BK101 := n0_
     have HO108 := n1_
     have HB := n2_
     have HO116 := n3_
     clear n0_ n1_ n2_ n3_
     clear ho hb hg hat
     obtain ⟨Ao219, co219, eo219⟩ := Kd.R_slice HO116.out
     (first | subst eo219 | (injection eo219 with f1_ f2_ f3_; have f4_ := f1_.symm; have f5_ := f3_.symm; clear f1_ f2_ f3_; subst f4_; subst f5_))
     refine hK.out _ _ ⟨(blk_cell BK101.out 0).trans rfl, (blk_cell BK101.out 1).trans rfl⟩ (fun hHeld => ?_)
     clear hK K
     refine norm_ (a' := ?_) ?_ ?_
     rotate_left
     ·
      show Act.put _ (some 47) _ = _
      simp only [Act.put, List.setIfInBounds_toArray, List.set_cons_zero, List.set_cons_succ, i64_w, i32_w]
      rfl
     refine one_ (i := 5) (N := some 48) #[true, true, true, true, true, true, false, false, false, false, false, false] rfl rfl (one_of HT_.out (by kernel_rfl)) (by decide) (fun K hK => ?_)
     refine goes_ Tryz.func26 (by kernel_rfl) rfl #[.slice Ao219 y114.length co219] (by rfl) rfl rfl (qzz4_) ?_
     with_reducible refine (grommetlaw16_theirs.calls kj3 _ _ y114 t117 _ ?side1 ?side2 (hG.below (qzz1_)) A32.out).mono ?_
     (case side1 => repeat (first | exact (Kd.R_reads' HO116.out).2.2 | (with_reducible refine Kd.C_alloc ?_ _) | (with_reducible refine Kd.C_drewN ?_ _) | (with_reducible refine Kd.C_drew ?_)))
     (case side2 => exact (Kd.R_reads' HO116.out).2.1)
     rintro e w220 ⟨v118, rfl, ho0, hb⟩
     refine ⟨_, rfl, ?_⟩
     have n0_ := Aside0.mk (Kd.R_elder' (qzz3_) (Kd.R_base ho0) hb)
     have n1_ := Aside0.mk (Kd.R_below (qzz6_) hb)
     have n2_ := Aside0.mk (Kd.R_lower (Kd.R_new' ho0 (Kd.R_lt (qzz3_))) (below_size (qzz0_)))
     have n3_ := Aside0.mk (blk_below (g := gb101) (o := .cells #[.slice A0_0 l0_0.length c0_0, .int .i64 a0_1] 24 (0, 0)) (qzz2_) hb)
     have n4_ := Aside0.mk (below_step (qzz0_) hb)
     clear HO108
     clear HO116
     clear BK101
     clear HB
     have HO108 := n0_
     have HO116 := n1_
     have HO119 := n2_
     have BK101 := n3_
     have HB := n4_
     clear n0_ n1_ n2_ n3_ n4_
     (try clear hb)
     (try clear hb2)
     (try clear hk)
     (try clear hi)
     (try clear ho0)
     obtain ⟨Ao221, co221, eo221⟩ := Kd.R_slice HO119.out
     (first | subst eo221 | (injection eo221 with f1_ f2_ f3_; have f4_ := f1_.symm; have f5_ := f3_.symm; clear f1_ f2_ f3_; subst f4_; subst f5_))
     refine hK.out _ _ ⟨(blk_cell BK101.out 0).trans rfl, (blk_cell BK101.out 1).trans rfl⟩ (fun hHeld => ?_)
     clear hK K
     refine norm_ (a' := ?_) ?_ ?_
     rotate_left
     ·
      show Act.put _ (some 48) _ = _
      simp only [Act.put, List.setIfInBounds_toArray, List.set_cons_zero, List.set_cons_succ, i64_w, i32_w]
      rfl
     refine one_ (i := 6) (N := some 49) #[true, true, true, true, true, true, true, false, false, false, false, false] rfl rfl (one_of HT_.out (by kernel_rfl)) (by decide) (fun K hK => ?_)
     refine goes_ Tryz.func25 (by kernel_rfl) rfl #[.agg #[.slice A0_0 l0_0.length c0_0, .int .i64 a0_1], .slice Ao221 t117.length co221] (by rfl) rfl rfl (qzz4_) ?_
     with_reducible refine (path_Get.calls kj3 _ _ l0_0 a0_1 _ _ t117 t120 t121 _ ?side1 ?side2 ?side3 ?side4 (hG.below (qzz1_)) A33.out).mono ?_
     (case side1 => repeat (first | exact (Kd.C_below HR0_0.out HB.out) | (with_reducible refine Kd.C_alloc ?_ _) | (with_reducible refine Kd.C_drewN ?_ _) | (with_reducible refine Kd.C_drew ?_)))
     (case side2 => exact HC0_0.out)
     (case side3 => repeat (first | exact (Kd.R_reads' HO119.out).2.2 | (with_reducible refine Kd.C_alloc ?_ _) | (with_reducible refine Kd.C_drewN ?_ _) | (with_reducible refine Kd.C_drew ?_)))
     (case side4 => exact (Kd.R_reads' HO119.out).2.1)
     rintro e w222 ⟨rfl, hb⟩
     refine ⟨_, rfl, ?_⟩
     have n0_ := Aside0.mk (Kd.R_below (qzz3_) hb)
     have n1_ := Aside0.mk (Kd.R_below (qzz6_) hb)
     have n2_ := Aside0.mk (Kd.R_below (qzz5_) hb)
     have n3_ := Aside0.mk (blk_below (g := gb101) (o := .cells #[.slice A0_0 l0_0.length c0_0, .int .i64 a0_1] 24 (0, 0)) (qzz2_) hb)
     have n4_ := Aside0.mk (below_step (qzz0_) hb)
     clear HO108
     clear HO116
     clear HO119
     clear BK101
     clear HB
     have HO108 := n0_
     have HO116 := n1_
     have HO119 := n2_
     have BK101 := n3_
     have HB := n4_
     clear n0_ n1_ n2_ n3_ n4_
     (try clear hb)
     (try clear hb2)
     (try clear hk)
     (try clear hi)
     refine hK.out _ _ ⟨(blk_cell BK101.out 0).trans rfl, (blk_cell BK101.out 1).trans rfl⟩ (fun hHeld => ?_)
     clear hK K
     refine norm_ (a' := ?_) ?_ ?_
     rotate_left
     ·
      show Act.put _ (some 49) _ = _
      simp only [Act.put, List.setIfInBounds_toArray, List.set_cons_zero, List.set_cons_succ, i64_w, i32_w]
      rfl
     refine pure_ (i := 7) (N := some 42) (v := ?_) (a' := ?_) #[true, true, true, true, true, true, true, true, false, false, false, false] rfl rfl (any_of HT_.out (by kernel_rfl)) (fun _ _ _ h => h) (Or.inl ⟨by rfl, ?_⟩) ?_ ?_
     rotate_left
     exact qzz21_
     rotate_left
     exact qzz22_
     refine pure_ (i := 8) (N := some 50) (v := ?_) (a' := ?_) #[true, true, true, true, true, true, true, true, true, false, false, false] rfl rfl (any_of HT_.out (by kernel_rfl)) (fun _ _ _ h => h) (Or.inl ⟨by rfl, ?_⟩) ?_ ?_
     rotate_left
     exact qzz21_
     rotate_left
     exact qzz22_
     refine pure_ (i := 9) (N := some 51) (v := ?_) (a' := ?_) #[true, true, true, true, true, true, true, true, true, true, false, false] rfl rfl (any_of HT_.out (by kernel_rfl)) (fun _ _ _ h => h) (Or.inl ⟨by rfl, ?_⟩) ?_ ?_
     rotate_left
     exact qzz21_
     rotate_left
     exact qzz22_
     refine pure_ (i := 10) (N := some 9) (v := ?_) (a' := ?_) #[true, true, true, true, true, true, true, true, true, true, true, false] rfl rfl (any_of HT_.out (by kernel_rfl)) (fun _ _ _ h => h) (Or.inl ⟨by rfl, ?_⟩) ?_ ?_
     rotate_left
     exact qzz21_
     rotate_left
     exact qzz22_
     refine pure_ (i := 11) (N := some 10) (v := ?_) (a' := ?_) #[true, true, true, true, true, true, true, true, true, true, true, true] rfl rfl (any_of HT_.out (by kernel_rfl)) (fun _ _ _ h => h) (Or.inl ⟨by rfl, ?_⟩) ?_ ?_
     rotate_left
     exact qzz21_
     rotate_left
     exact qzz22_
     refine done_ (done_of HT_.out (by kernel_rfl)) ?_
     try go_wp2_with (first | ((with_reducible refine gate_callee (f := 26) rfl ?_); refine goesL_ (some 54) rfl rfl Tryz.func26 (by kernel_rfl) rfl #[.slice A2 l2.length c2] rfl (qzz4_) ?_; (with_reducible refine (grommetlaw16_theirs.calls kj3 _ _ l2 t122 _ ?side1 ?side2 (hG.below (qzz1_)) A34.out).mono ?_); (case side1 => repeat (first | exact (Kd.C_below HR2.out HB.out) | (with_reducible refine Kd.C_alloc ?_ _) | (with_reducible refine Kd.C_drewN ?_ _) | (with_reducible refine Kd.C_drew ?_))); (case side2 => exact HC2.out); rintro e w223 ⟨v123, rfl, ho0, hb⟩; refine ⟨_, rfl, ?_⟩; have n0_ := Aside0.mk (Kd.R_elder' (qzz3_) (Kd.R_base ho0) hb); have n1_ := Aside0.mk (Kd.R_below (qzz6_) hb); have n2_ := Aside0.mk (Kd.R_elder' (qzz5_) (Kd.R_base ho0) hb); have n3_ := Aside0.mk (Kd.R_lower (Kd.R_new' (Kd.R_new' ho0 (Kd.R_lt (qzz3_))) (Kd.R_lt (qzz5_))) (below_size (qzz0_))); have n4_ := Aside0.mk (blk_below (g := gb101) (o := .cells #[.slice A0_0 l0_0.length c0_0, .int .i64 a0_1] 24 (0, 0)) (qzz2_) hb); have n5_ := Aside0.mk (below_step (qzz0_) hb); clear HO108; clear HO116; clear HO119; clear BK101; clear HB; have HO108 := n0_; have HO116 := n1_; have HO119 := n2_; have HO124 := n3_; have BK101 := n4_; have HB := n5_; clear n0_ n1_ n2_ n3_ n4_ n5_; (try clear hb); (try clear hk); (try clear ho0); obtain ⟨Ao224, co224, eo224⟩ := Kd.R_slice HO124.out; subst eo224) | ((with_reducible refine gate_callee (f := 28) rfl ?_); refine goesL_ (some 55) rfl rfl Tryz.func28 (by kernel_rfl) rfl #[.slice Ao224 t122.length co224] rfl (qzz4_) ?_; (with_reducible refine (path_Format.calls _ _ t122 t125 t126 _ ?side1 ?side2 (hG.below (qzz1_)) A35.out).mono ?_); (case side1 => repeat (first | exact (Kd.R_reads' HO124.out).2.2 | (with_reducible refine Kd.C_alloc ?_ _) | (with_reducible refine Kd.C_drewN ?_ _) | (with_reducible refine Kd.C_drew ?_))); (case side2 => exact (Kd.R_reads' HO124.out).2.1); rintro e w225 ⟨rfl, hb⟩; refine ⟨_, rfl, ?_⟩; have n0_ := Aside0.mk (Kd.R_below (qzz3_) hb); have n1_ := Aside0.mk (Kd.R_below (qzz6_) hb); have n2_ := Aside0.mk (Kd.R_below (qzz5_) hb); have n3_ := Aside0.mk (Kd.R_below (qzz8_) hb); have n4_ := Aside0.mk (blk_below (g := gb101) (o := .cells #[.slice A0_0 l0_0.length c0_0, .int .i64 a0_1] 24 (0, 0)) (qzz2_) hb); have n5_ := Aside0.mk (below_step (qzz0_) hb); clear HO108; clear HO116; clear HO119; clear HO124; clear BK101; clear HB; have HO108 := n0_; have HO116 := n1_; have HO119 := n2_; have HO124 := n3_; have BK101 := n4_; have HB := n5_; clear n0_ n1_ n2_ n3_ n4_ n5_; (try clear hb); (try clear hk)))
     go_ret
     exact ⟨qzz16_, qzz0_⟩
    rw [if_pos c195] at H
    have c195b0 : (t121 == 1) = true := beq_iff_eq.mpr c195
    have c195b1 : (t121 != 1) = false := bne_eq_false_iff_eq.mpr c195
    clear c195
    replace H := Option.bind_eq_some_iff.mp H
    obtain ⟨t127, A1960, H⟩ := H
    replace H : (some t127) = some r := H
    have A196 := Aside0.mk A1960
    clear A1960
    obtain rfl := Option.some.inj H
    try go_wp2
    have n0_ := Aside0.mk (blk_drew BK101.out)
    have n1_ := Aside0.mk (below_drew1 HB.out)
    clear BK101
    clear HB
    have BK101 := n0_
    have HB := n1_
    clear n0_ n1_
    refine start_ (n := 9) (S := fun w' => w'.cell? ⟨gb101, 0, none⟩ = some (.slice A0_0 l0_0.length c0_0) ∧ w'.cell? ⟨gb101, 1, none⟩ = some (.int .i64 a0_1)) (ds := []) #[false, false, false, false, false, false, false, false, false] (by kernel_rfl) rfl rfl ⟨(blk_cell BK101.out 0).trans rfl, (blk_cell BK101.out 1).trans rfl⟩ (fun hHeld => ?_); refine with_tabW grommetlaw16_PathOn.tab3 grommetlaw16_PathOn.bits3 (fun HT_ HW_ => ?_)
    generalize wc.drew = w197 at BK101 HB hHeld ⊢
    refine pure_ (i := 1) (N := some 37) (v := ?_) (a' := ?_) #[false, true, false, false, false, false, false, false, false] rfl rfl (any_of HT_.out (by kernel_rfl)) (fun _ _ _ h => h) (Or.inl ⟨by rfl, ?_⟩) ?_ ?_
    rotate_left
    exact qzz21_
    rotate_left
    exact qzz22_
    refine take_ (i := 0) (N := some 36) (v := ?_) (a' := ?_) #[true, true, false, false, false, false, false, false, false] rfl rfl (take_ofW HT_.out HW_.out (by kernel_rfl)) (fun _ _ _ h => h) (Or.inl ⟨by rfl, ?_⟩) hHeld ?_ ?_
    rotate_left
    exact qzz23_
    rotate_left
    exact qzz22_
    refine one_ (i := 2) (N := some 38) #[true, true, true, false, false, false, false, false, false] rfl rfl (one_of HT_.out (by kernel_rfl)) (by decide) (fun K hK => ?_)
    refine goes_ Tryz.func26 (by kernel_rfl) rfl #[.slice A1 l1.length c1] (by rfl) rfl rfl (qzz4_) ?_
    with_reducible refine (grommetlaw16_theirs.calls kj3 _ _ l1 t106 _ ?side1 ?side2 (hG.below (qzz1_)) A28.out).mono ?_
    (case side1 => repeat (first | exact (Kd.C_below HR1.out HB.out) | (with_reducible refine Kd.C_alloc ?_ _) | (with_reducible refine Kd.C_drewN ?_ _) | (with_reducible refine Kd.C_drew ?_)))
    (case side2 => exact HC1.out)
    rintro e w198 ⟨v107, rfl, ho0, hb⟩
    refine ⟨_, rfl, ?_⟩
    have n0_ := Aside0.mk (Kd.R_lower ho0 (below_size (qzz0_)))
    have n1_ := Aside0.mk (blk_below (g := gb101) (o := .cells #[.slice A0_0 l0_0.length c0_0, .int .i64 a0_1] 24 (0, 0)) (qzz2_) hb)
    have n2_ := Aside0.mk (below_step (qzz0_) hb)
    clear BK101
    clear HB
    have HO108 := n0_
    have BK101 := n1_
    have HB := n2_
    clear n0_ n1_ n2_
    (try clear hb)
    (try clear hb2)
    (try clear hk)
    (try clear hi)
    (try clear ho0)
    obtain ⟨Ao199, co199, eo199⟩ := Kd.R_slice HO108.out
    (first | subst eo199 | (injection eo199 with f1_ f2_ f3_; have f4_ := f1_.symm; have f5_ := f3_.symm; clear f1_ f2_ f3_; subst f4_; subst f5_))
    refine hK.out _ _ ⟨(blk_cell BK101.out 0).trans rfl, (blk_cell BK101.out 1).trans rfl⟩ (fun hHeld => ?_)
    clear hK K
    refine norm_ (a' := ?_) ?_ ?_
    rotate_left
    ·
     show Act.put _ (some 38) _ = _
     simp only [Act.put, List.setIfInBounds_toArray, List.set_cons_zero, List.set_cons_succ, i64_w, i32_w]
     rfl
    refine one_ (i := 3) (N := some 39) #[true, true, true, true, false, false, false, false, false] rfl rfl (one_of HT_.out (by kernel_rfl)) (by decide) (fun K hK => ?_)
    refine goes_ Tryz.func25 (by kernel_rfl) rfl #[.agg #[.slice A0_0 l0_0.length c0_0, .int .i64 a0_1], .slice Ao199 t106.length co199] (by rfl) rfl rfl (qzz4_) ?_
    with_reducible refine (path_Get.calls kj3 _ _ l0_0 a0_1 _ _ t106 t109 t110 _ ?side1 ?side2 ?side3 ?side4 (hG.below (qzz1_)) A29.out).mono ?_
    (case side1 => repeat (first | exact (Kd.C_below HR0_0.out HB.out) | (with_reducible refine Kd.C_alloc ?_ _) | (with_reducible refine Kd.C_drewN ?_ _) | (with_reducible refine Kd.C_drew ?_)))
    (case side2 => exact HC0_0.out)
    (case side3 => repeat (first | exact (Kd.R_reads' HO108.out).2.2 | (with_reducible refine Kd.C_alloc ?_ _) | (with_reducible refine Kd.C_drewN ?_ _) | (with_reducible refine Kd.C_drew ?_)))
    (case side4 => exact (Kd.R_reads' HO108.out).2.1)
    rintro e w200 ⟨rfl, hb⟩
    refine ⟨_, rfl, ?_⟩
    have n0_ := Aside0.mk (Kd.R_below (qzz3_) hb)
    have n1_ := Aside0.mk (blk_below (g := gb101) (o := .cells #[.slice A0_0 l0_0.length c0_0, .int .i64 a0_1] 24 (0, 0)) (qzz2_) hb)
    have n2_ := Aside0.mk (below_step (qzz0_) hb)
    clear HO108
    clear BK101
    clear HB
    have HO108 := n0_
    have BK101 := n1_
    have HB := n2_
    clear n0_ n1_ n2_
    (try clear hb)
    (try clear hb2)
    (try clear hk)
    (try clear hi)
    refine hK.out _ _ ⟨(blk_cell BK101.out 0).trans rfl, (blk_cell BK101.out 1).trans rfl⟩ (fun hHeld => ?_)
    clear hK K
    refine norm_ (a' := ?_) ?_ ?_
    rotate_left
    ·
     show Act.put _ (some 39) _ = _
     simp only [Act.put, List.setIfInBounds_toArray, List.set_cons_zero, List.set_cons_succ, i64_w, i32_w]
     rfl
    refine pure_ (i := 4) (N := some 35) (v := ?_) (a' := ?_) #[true, true, true, true, true, false, false, false, false] rfl rfl (any_of HT_.out (by kernel_rfl)) (fun _ _ _ h => h) (Or.inl ⟨by rfl, ?_⟩) ?_ ?_
    rotate_left
    exact qzz21_
    rotate_left
    exact qzz22_
    refine pure_ (i := 5) (N := some 40) (v := ?_) (a' := ?_) #[true, true, true, true, true, true, false, false, false] rfl rfl (any_of HT_.out (by kernel_rfl)) (fun _ _ _ h => h) (Or.inl ⟨by rfl, ?_⟩) ?_ ?_
    rotate_left
    exact qzz21_
    rotate_left
    exact qzz22_
    refine pure_ (i := 6) (N := some 41) (v := ?_) (a' := ?_) #[true, true, true, true, true, true, true, false, false] rfl rfl (any_of HT_.out (by kernel_rfl)) (fun _ _ _ h => h) (Or.inl ⟨by rfl, ?_⟩) ?_ ?_
    rotate_left
    exact qzz21_
    rotate_left
    exact qzz22_
    refine pure_ (i := 7) (N := some 7) (v := ?_) (a' := ?_) #[true, true, true, true, true, true, true, true, false] rfl rfl (any_of HT_.out (by kernel_rfl)) (fun _ _ _ h => h) (Or.inl ⟨by rfl, ?_⟩) ?_ ?_
    rotate_left
    exact qzz21_
    rotate_left
    exact qzz22_
    refine pure_ (i := 8) (N := some 8) (v := ?_) (a' := ?_) #[true, true, true, true, true, true, true, true, true] rfl rfl (any_of HT_.out (by kernel_rfl)) (fun _ _ _ h => h) (Or.inl ⟨by rfl, ?_⟩) ?_ ?_
    rotate_left
    exact qzz21_
    rotate_left
    exact qzz22_
    refine done_ (done_of HT_.out (by kernel_rfl)) ?_
    try go_wp2
    have n0_ := Aside0.mk (Kd.R_drew HO108.out)
    have n1_ := Aside0.mk (blk_drew BK101.out)
    have n2_ := Aside0.mk (below_drew1 HB.out)
    clear HO108
    clear BK101
    clear HB
    have HO108 := n0_
    have BK101 := n1_
    have HB := n2_
    clear n0_ n1_ n2_
    refine start_ (n := 12) (S := fun w' => w'.cell? ⟨gb101, 0, none⟩ = some (.slice A0_0 l0_0.length c0_0) ∧ w'.cell? ⟨gb101, 1, none⟩ = some (.int .i64 a0_1)) (ds := []) #[false, false, false, false, false, false, false, false, false, false, false, false] (by kernel_rfl) rfl rfl ⟨(blk_cell BK101.out 0).trans rfl, (blk_cell BK101.out 1).trans rfl⟩ (fun hHeld => ?_); refine with_tabW grommetlaw16_PathOn.tab4 grommetlaw16_PathOn.bits4 (fun HT_ HW_ => ?_)
    generalize w200.drew = w201 at HO108 BK101 HB hHeld ⊢
    refine pure_ (i := 1) (N := some 44) (v := ?_) (a' := ?_) #[false, true, false, false, false, false, false, false, false, false, false, false] rfl rfl (any_of HT_.out (by kernel_rfl)) (fun _ _ _ h => h) (Or.inl ⟨by rfl, ?_⟩) ?_ ?_
    rotate_left
    exact qzz21_
    rotate_left
    exact qzz22_
    refine pure_ (i := 3) (N := some 46) (v := ?_) (a' := ?_) #[false, true, false, true, false, false, false, false, false, false, false, false] rfl rfl (any_of HT_.out (by kernel_rfl)) (fun _ _ _ h => h) (Or.inl ⟨by rfl, ?_⟩) ?_ ?_
    rotate_left
    exact qzz21_
    rotate_left
    exact qzz22_
    refine take_ (i := 0) (N := some 43) (v := ?_) (a' := ?_) #[true, true, false, true, false, false, false, false, false, false, false, false] rfl rfl (take_ofW HT_.out HW_.out (by kernel_rfl)) (fun _ _ _ h => h) (Or.inl ⟨by rfl, ?_⟩) hHeld ?_ ?_
    rotate_left
    exact qzz23_
    rotate_left
    exact qzz22_
    refine one_ (i := 2) (N := some 45) #[true, true, true, true, false, false, false, false, false, false, false, false] rfl rfl (one_of HT_.out (by kernel_rfl)) (by decide) (fun K hK => ?_)
    refine Kd.R_append_rows_step k58 (w0 := w) w.heap.size (by rfl) (.const (.slice none 0 0)) (.tmp 44) 47 58 (.agg #[(.string ⟨#[]⟩), (.int .i64 0), (.bool false)]) 32 rfl Tryz.underlying47 info58 rfl (by decide) (by omega) (.slice none 0 0) ([] : List (S58)) l1 _ _ _ (fun _ => True) (fun _ => False) rfl rfl ?aO ?aR (fun _ _ h => h) (fun _ h => h.elim) ?aF ?aB ?aS ?aL ?_
    (case aR => repeat (first | exact (Kd.C_below HR1.out HB.out) | (with_reducible refine Kd.C_alloc ?_ _) | (with_reducible refine Kd.C_drewN ?_ _) | (with_reducible refine Kd.C_drew ?_)))
    (case aB => exact (qzz0_))
    (case aF => exact (fun _ _ => trivial))
    (case aO => exact ((Kd.R_nil _ _ _ _ (fun _ => True))))
    (case aS => exact (below_size (qzz0_)))
    (case aL => have := LMc30.out; omega)
    intro v112 w202 ho hb hg hat
    rw [← Ny111.out] at ho
    have n0_ := Aside0.mk (blk_grown (g := gb101) (o := .cells #[.slice A0_0 l0_0.length c0_0, .int .i64 a0_1] 24 (0, 0)) (qzz2_) hg (by simp [Value.ownBlock]))
    have n1_ := Aside0.mk (Kd.R_grown (qzz3_) hg (fun _ _ => by simp [Value.ownBlock]))
    have n2_ := Aside0.mk (hb)
    have n3_ := Aside0.mk (ho)
    clear BK101
    clear HO108
    clear HB
    have BK101 := n0_
    have HO108 := n1_
    have HB := n2_
    have HO113 := n3_
    clear n0_ n1_ n2_ n3_
    clear ho hb hg hat
    refine hK.out _ _ ⟨(blk_cell BK101.out 0).trans rfl, (blk_cell BK101.out 1).trans rfl⟩ (fun hHeld => ?_)
    clear hK K
    refine norm_ (a' := ?_) ?_ ?_
    rotate_left
    ·
     show Act.put _ (some 45) _ = _
     simp only [Act.put, List.setIfInBounds_toArray, List.set_cons_zero, List.set_cons_succ, i64_w, i32_w]
     rfl
    refine one_ (i := 4) (N := some 47) #[true, true, true, true, true, false, false, false, false, false, false, false] rfl rfl (one_of HT_.out (by kernel_rfl)) (by decide) (fun K hK => ?_)
    refine Kd.R_append_rows_step k58 (w0 := w) w.heap.size (by rfl) (.tmp 45) (.tmp 46) 47 58 (.agg #[(.string ⟨#[]⟩), (.int .i64 0), (.bool false)]) 32 rfl Tryz.underlying47 info58 rfl (by decide) (by omega) v112 y111 l2 _ _ _ (fun _ => True) (fun _ => False) rfl rfl ?aO ?aR (fun _ _ h => h) (fun _ h => h.elim) ?aF ?aB ?aS ?aL ?_
    (case aR => repeat (first | exact (Kd.C_below HR2.out HB.out) | (with_reducible refine Kd.C_alloc ?_ _) | (with_reducible refine Kd.C_drewN ?_ _) | (with_reducible refine Kd.C_drew ?_)))
    (case aB => exact (qzz0_))
    (case aF => exact (fun _ _ => trivial))
    (case aO => exact (qzz10_))
    (case aS => exact (below_size (qzz0_)))
    (case aL => have := LMc31.out; omega)
    intro v115 w203 ho hb hg hat
    rw [← Ny114.out] at ho
    have n0_ := Aside0.mk (blk_grown (g := gb101) (o := .cells #[.slice A0_0 l0_0.length c0_0, .int .i64 a0_1] 24 (0, 0)) (qzz2_) hg (Kd.R_ne HO113.out BK101.out (by decide)))
    have n1_ := Aside0.mk (Kd.R_over' (qzz3_) (Kd.R_typed (qzz10_)) (by decide) hg)
    have n2_ := Aside0.mk (hb)
    have n3_ := Aside0.mk (ho)
    clear BK101
    clear HO108
    clear HB
    clear HO113
    have BK101 := n0_
    have HO108 := n1_
    have HB := n2_
    have HO116 := n3_
    clear n0_ n1_ n2_ n3_
    clear ho hb hg hat
    obtain ⟨Ao204, co204, eo204⟩ := Kd.R_slice HO116.out
    (first | subst eo204 | (injection eo204 with f1_ f2_ f3_; have f4_ := f1_.symm; have f5_ := f3_.symm; clear f1_ f2_ f3_; subst f4_; subst f5_))
    refine hK.out _ _ ⟨(blk_cell BK101.out 0).trans rfl, (blk_cell BK101.out 1).trans rfl⟩ (fun hHeld => ?_)
    clear hK K
    refine norm_ (a' := ?_) ?_ ?_
    rotate_left
    ·
     show Act.put _ (some 47) _ = _
     simp only [Act.put, List.setIfInBounds_toArray, List.set_cons_zero, List.set_cons_succ, i64_w, i32_w]
     rfl
    refine one_ (i := 5) (N := some 48) #[true, true, true, true, true, true, false, false, false, false, false, false] rfl rfl (one_of HT_.out (by kernel_rfl)) (by decide) (fun K hK => ?_)
    refine goes_ Tryz.func26 (by kernel_rfl) rfl #[.slice Ao204 y114.length co204] (by rfl) rfl rfl (qzz4_) ?_
    with_reducible refine (grommetlaw16_theirs.calls kj3 _ _ y114 t117 _ ?side1 ?side2 (hG.below (qzz1_)) A32.out).mono ?_
    (case side1 => repeat (first | exact (Kd.R_reads' HO116.out).2.2 | (with_reducible refine Kd.C_alloc ?_ _) | (with_reducible refine Kd.C_drewN ?_ _) | (with_reducible refine Kd.C_drew ?_)))
    (case side2 => exact (Kd.R_reads' HO116.out).2.1)
    rintro e w205 ⟨v118, rfl, ho0, hb⟩
    refine ⟨_, rfl, ?_⟩
    have n0_ := Aside0.mk (Kd.R_elder' (qzz3_) (Kd.R_base ho0) hb)
    have n1_ := Aside0.mk (Kd.R_below (qzz6_) hb)
    have n2_ := Aside0.mk (Kd.R_lower (Kd.R_new' ho0 (Kd.R_lt (qzz3_))) (below_size (qzz0_)))
    have n3_ := Aside0.mk (blk_below (g := gb101) (o := .cells #[.slice A0_0 l0_0.length c0_0, .int .i64 a0_1] 24 (0, 0)) (qzz2_) hb)
    have n4_ := Aside0.mk (below_step (qzz0_) hb)
    clear HO108
    clear HO116
    clear BK101
    clear HB
    have HO108 := n0_
    have HO116 := n1_
    have HO119 := n2_
    have BK101 := n3_
    have HB := n4_
    clear n0_ n1_ n2_ n3_ n4_
    (try clear hb)
    (try clear hb2)
    (try clear hk)
    (try clear hi)
    (try clear ho0)
    obtain ⟨Ao206, co206, eo206⟩ := Kd.R_slice HO119.out
    (first | subst eo206 | (injection eo206 with f1_ f2_ f3_; have f4_ := f1_.symm; have f5_ := f3_.symm; clear f1_ f2_ f3_; subst f4_; subst f5_))
    refine hK.out _ _ ⟨(blk_cell BK101.out 0).trans rfl, (blk_cell BK101.out 1).trans rfl⟩ (fun hHeld => ?_)
    clear hK K
    refine norm_ (a' := ?_) ?_ ?_
    rotate_left
    ·
     show Act.put _ (some 48) _ = _
     simp only [Act.put, List.setIfInBounds_toArray, List.set_cons_zero, List.set_cons_succ, i64_w, i32_w]
     rfl
    refine one_ (i := 6) (N := some 49) #[true, true, true, true, true, true, true, false, false, false, false, false] rfl rfl (one_of HT_.out (by kernel_rfl)) (by decide) (fun K hK => ?_)
    refine goes_ Tryz.func25 (by kernel_rfl) rfl #[.agg #[.slice A0_0 l0_0.length c0_0, .int .i64 a0_1], .slice Ao206 t117.length co206] (by rfl) rfl rfl (qzz4_) ?_
    with_reducible refine (path_Get.calls kj3 _ _ l0_0 a0_1 _ _ t117 t120 t121 _ ?side1 ?side2 ?side3 ?side4 (hG.below (qzz1_)) A33.out).mono ?_
    (case side1 => repeat (first | exact (Kd.C_below HR0_0.out HB.out) | (with_reducible refine Kd.C_alloc ?_ _) | (with_reducible refine Kd.C_drewN ?_ _) | (with_reducible refine Kd.C_drew ?_)))
    (case side2 => exact HC0_0.out)
    (case side3 => repeat (first | exact (Kd.R_reads' HO119.out).2.2 | (with_reducible refine Kd.C_alloc ?_ _) | (with_reducible refine Kd.C_drewN ?_ _) | (with_reducible refine Kd.C_drew ?_)))
    (case side4 => exact (Kd.R_reads' HO119.out).2.1)
    rintro e w207 ⟨rfl, hb⟩
    refine ⟨_, rfl, ?_⟩
    have n0_ := Aside0.mk (Kd.R_below (qzz3_) hb)
    have n1_ := Aside0.mk (Kd.R_below (qzz6_) hb)
    have n2_ := Aside0.mk (Kd.R_below (qzz5_) hb)
    have n3_ := Aside0.mk (blk_below (g := gb101) (o := .cells #[.slice A0_0 l0_0.length c0_0, .int .i64 a0_1] 24 (0, 0)) (qzz2_) hb)
    have n4_ := Aside0.mk (below_step (qzz0_) hb)
    clear HO108
    clear HO116
    clear HO119
    clear BK101
    clear HB
    have HO108 := n0_
    have HO116 := n1_
    have HO119 := n2_
    have BK101 := n3_
    have HB := n4_
    clear n0_ n1_ n2_ n3_ n4_
    (try clear hb)
    (try clear hb2)
    (try clear hk)
    (try clear hi)
    refine hK.out _ _ ⟨(blk_cell BK101.out 0).trans rfl, (blk_cell BK101.out 1).trans rfl⟩ (fun hHeld => ?_)
    clear hK K
    refine norm_ (a' := ?_) ?_ ?_
    rotate_left
    ·
     show Act.put _ (some 49) _ = _
     simp only [Act.put, List.setIfInBounds_toArray, List.set_cons_zero, List.set_cons_succ, i64_w, i32_w]
     rfl
    refine pure_ (i := 7) (N := some 42) (v := ?_) (a' := ?_) #[true, true, true, true, true, true, true, true, false, false, false, false] rfl rfl (any_of HT_.out (by kernel_rfl)) (fun _ _ _ h => h) (Or.inl ⟨by rfl, ?_⟩) ?_ ?_
    rotate_left
    exact qzz21_
    rotate_left
    exact qzz22_
    refine pure_ (i := 8) (N := some 50) (v := ?_) (a' := ?_) #[true, true, true, true, true, true, true, true, true, false, false, false] rfl rfl (any_of HT_.out (by kernel_rfl)) (fun _ _ _ h => h) (Or.inl ⟨by rfl, ?_⟩) ?_ ?_
    rotate_left
    exact qzz21_
    rotate_left
    exact qzz22_
    refine pure_ (i := 9) (N := some 51) (v := ?_) (a' := ?_) #[true, true, true, true, true, true, true, true, true, true, false, false] rfl rfl (any_of HT_.out (by kernel_rfl)) (fun _ _ _ h => h) (Or.inl ⟨by rfl, ?_⟩) ?_ ?_
    rotate_left
    exact qzz21_
    rotate_left
    exact qzz22_
    refine pure_ (i := 10) (N := some 9) (v := ?_) (a' := ?_) #[true, true, true, true, true, true, true, true, true, true, true, false] rfl rfl (any_of HT_.out (by kernel_rfl)) (fun _ _ _ h => h) (Or.inl ⟨by rfl, ?_⟩) ?_ ?_
    rotate_left
    exact qzz21_
    rotate_left
    exact qzz22_
    refine pure_ (i := 11) (N := some 10) (v := ?_) (a' := ?_) #[true, true, true, true, true, true, true, true, true, true, true, true] rfl rfl (any_of HT_.out (by kernel_rfl)) (fun _ _ _ h => h) (Or.inl ⟨by rfl, ?_⟩) ?_ ?_
    rotate_left
    exact qzz21_
    rotate_left
    exact qzz22_
    refine done_ (done_of HT_.out (by kernel_rfl)) ?_
    try go_wp2_with (first | ((with_reducible refine gate_callee (f := 26) rfl ?_); refine goesL_ (some 54) rfl rfl Tryz.func26 (by kernel_rfl) rfl #[.slice A2 l2.length c2] rfl (qzz4_) ?_; (with_reducible refine (grommetlaw16_theirs.calls kj3 _ _ l2 t122 _ ?side1 ?side2 (hG.below (qzz1_)) A34.out).mono ?_); (case side1 => repeat (first | exact (Kd.C_below HR2.out HB.out) | (with_reducible refine Kd.C_alloc ?_ _) | (with_reducible refine Kd.C_drewN ?_ _) | (with_reducible refine Kd.C_drew ?_))); (case side2 => exact HC2.out); rintro e w208 ⟨v123, rfl, ho0, hb⟩; refine ⟨_, rfl, ?_⟩; have n0_ := Aside0.mk (Kd.R_elder' (qzz3_) (Kd.R_base ho0) hb); have n1_ := Aside0.mk (Kd.R_below (qzz6_) hb); have n2_ := Aside0.mk (Kd.R_elder' (qzz5_) (Kd.R_base ho0) hb); have n3_ := Aside0.mk (Kd.R_lower (Kd.R_new' (Kd.R_new' ho0 (Kd.R_lt (qzz3_))) (Kd.R_lt (qzz5_))) (below_size (qzz0_))); have n4_ := Aside0.mk (blk_below (g := gb101) (o := .cells #[.slice A0_0 l0_0.length c0_0, .int .i64 a0_1] 24 (0, 0)) (qzz2_) hb); have n5_ := Aside0.mk (below_step (qzz0_) hb); clear HO108; clear HO116; clear HO119; clear BK101; clear HB; have HO108 := n0_; have HO116 := n1_; have HO119 := n2_; have HO124 := n3_; have BK101 := n4_; have HB := n5_; clear n0_ n1_ n2_ n3_ n4_ n5_; (try clear hb); (try clear hk); (try clear ho0); obtain ⟨Ao209, co209, eo209⟩ := Kd.R_slice HO124.out; subst eo209) | ((with_reducible refine gate_callee (f := 28) rfl ?_); refine goesL_ (some 55) rfl rfl Tryz.func28 (by kernel_rfl) rfl #[.slice Ao209 t122.length co209] rfl (qzz4_) ?_; (with_reducible refine (path_Format.calls _ _ t122 t125 t126 _ ?side1 ?side2 (hG.below (qzz1_)) A35.out).mono ?_); (case side1 => repeat (first | exact (Kd.R_reads' HO124.out).2.2 | (with_reducible refine Kd.C_alloc ?_ _) | (with_reducible refine Kd.C_drewN ?_ _) | (with_reducible refine Kd.C_drew ?_))); (case side2 => exact (Kd.R_reads' HO124.out).2.1); rintro e w210 ⟨rfl, hb⟩; refine ⟨_, rfl, ?_⟩; have n0_ := Aside0.mk (Kd.R_below (qzz3_) hb); have n1_ := Aside0.mk (Kd.R_below (qzz6_) hb); have n2_ := Aside0.mk (Kd.R_below (qzz5_) hb); have n3_ := Aside0.mk (Kd.R_below (qzz8_) hb); have n4_ := Aside0.mk (blk_below (g := gb101) (o := .cells #[.slice A0_0 l0_0.length c0_0, .int .i64 a0_1] 24 (0, 0)) (qzz2_) hb); have n5_ := Aside0.mk (below_step (qzz0_) hb); clear HO108; clear HO116; clear HO119; clear HO124; clear BK101; clear HB; have HO108 := n0_; have HO116 := n1_; have HO119 := n2_; have HO124 := n3_; have BK101 := n4_; have HB := n5_; clear n0_ n1_ n2_ n3_ n4_ n5_; (try clear hb); (try clear hk)) | (go_at_call 24; (with_reducible refine (grommetlaw16_alive.calls  t127 _ (hG.below (qzz1_)) A196.out).mono ?_); rintro e w211 ⟨rfl, hb⟩; have n0_ := Aside0.mk (Kd.R_below (qzz3_) hb); have n1_ := Aside0.mk (Kd.R_below (qzz6_) hb); have n2_ := Aside0.mk (Kd.R_below (qzz5_) hb); have n3_ := Aside0.mk (Kd.R_below (qzz8_) hb); have n4_ := Aside0.mk (blk_below (g := gb101) (o := .cells #[.slice A0_0 l0_0.length c0_0, .int .i64 a0_1] 24 (0, 0)) (qzz2_) hb); have n5_ := Aside0.mk (below_step (qzz0_) hb); clear HO108; clear HO116; clear HO119; clear HO124; clear BK101; clear HB; have HO108 := n0_; have HO116 := n1_; have HO119 := n2_; have HO124 := n3_; have BK101 := n4_; have HB := n5_; clear n0_ n1_ n2_ n3_ n4_ n5_; (try clear hb); (try clear hk)))
    go_ret
    exact ⟨qzz16_, qzz0_⟩
   rw [if_pos c36] at H
   have c36b0 : (t126 == 0) = true := beq_iff_eq.mpr c36
   have c36b1 : (t126 != 0) = false := bne_eq_false_iff_eq.mpr c36
   clear c36
   by_cases c37 : t110 = 0
   rotate_left
   ·
    rw [if_neg c37] at H
    have c37b0 : (t110 == 0) = false := beq_eq_false_iff_ne.mpr c37
    have c37b1 : (t110 != 0) = true := bne_iff_ne.mpr c37
    by_cases c134 : t110 = t121
    rotate_left
    ·
     rw [if_neg c134] at H
     have c134b0 : (t110 == t121) = false := beq_eq_false_iff_ne.mpr c134
     have c134b1 : (t110 != t121) = true := bne_iff_ne.mpr c134
     obtain rfl := Option.some.inj H
     try go_wp2
     have n0_ := Aside0.mk (blk_drew BK101.out)
     have n1_ := Aside0.mk (below_drew1 HB.out)
     clear BK101
     clear HB
     have BK101 := n0_
     have HB := n1_
     clear n0_ n1_
     refine start_ (n := 9) (S := fun w' => w'.cell? ⟨gb101, 0, none⟩ = some (.slice A0_0 l0_0.length c0_0) ∧ w'.cell? ⟨gb101, 1, none⟩ = some (.int .i64 a0_1)) (ds := []) #[false, false, false, false, false, false, false, false, false] (by kernel_rfl) rfl rfl ⟨(blk_cell BK101.out 0).trans rfl, (blk_cell BK101.out 1).trans rfl⟩ (fun hHeld => ?_); refine with_tabW grommetlaw16_PathOn.tab3 grommetlaw16_PathOn.bits3 (fun HT_ HW_ => ?_)
     generalize wc.drew = w181 at BK101 HB hHeld ⊢
     refine pure_ (i := 1) (N := some 37) (v := ?_) (a' := ?_) #[false, true, false, false, false, false, false, false, false] rfl rfl (any_of HT_.out (by kernel_rfl)) (fun _ _ _ h => h) (Or.inl ⟨by rfl, ?_⟩) ?_ ?_
     rotate_left
     exact qzz21_
     rotate_left
     exact qzz22_
     refine take_ (i := 0) (N := some 36) (v := ?_) (a' := ?_) #[true, true, false, false, false, false, false, false, false] rfl rfl (take_ofW HT_.out HW_.out (by kernel_rfl)) (fun _ _ _ h => h) (Or.inl ⟨by rfl, ?_⟩) hHeld ?_ ?_
     rotate_left
     exact qzz23_
     rotate_left
     exact qzz22_
     refine one_ (i := 2) (N := some 38) #[true, true, true, false, false, false, false, false, false] rfl rfl (one_of HT_.out (by kernel_rfl)) (by decide) (fun K hK => ?_)
     refine goes_ Tryz.func26 (by kernel_rfl) rfl #[.slice A1 l1.length c1] (by rfl) rfl rfl (qzz4_) ?_
     with_reducible refine (grommetlaw16_theirs.calls kj3 _ _ l1 t106 _ ?side1 ?side2 (hG.below (qzz1_)) A28.out).mono ?_
     (case side1 => repeat (first | exact (Kd.C_below HR1.out HB.out) | (with_reducible refine Kd.C_alloc ?_ _) | (with_reducible refine Kd.C_drewN ?_ _) | (with_reducible refine Kd.C_drew ?_)))
     (case side2 => exact HC1.out)
     rintro e w182 ⟨v107, rfl, ho0, hb⟩
     refine ⟨_, rfl, ?_⟩
     have n0_ := Aside0.mk (Kd.R_lower ho0 (below_size (qzz0_)))
     have n1_ := Aside0.mk (blk_below (g := gb101) (o := .cells #[.slice A0_0 l0_0.length c0_0, .int .i64 a0_1] 24 (0, 0)) (qzz2_) hb)
     have n2_ := Aside0.mk (below_step (qzz0_) hb)
     clear BK101
     clear HB
     have HO108 := n0_
     have BK101 := n1_
     have HB := n2_
     clear n0_ n1_ n2_
     (try clear hb)
     (try clear hb2)
     (try clear hk)
     (try clear hi)
     (try clear ho0)
     obtain ⟨Ao183, co183, eo183⟩ := Kd.R_slice HO108.out
     (first | subst eo183 | (injection eo183 with f1_ f2_ f3_; have f4_ := f1_.symm; have f5_ := f3_.symm; clear f1_ f2_ f3_; subst f4_; subst f5_))
     refine hK.out _ _ ⟨(blk_cell BK101.out 0).trans rfl, (blk_cell BK101.out 1).trans rfl⟩ (fun hHeld => ?_)
     clear hK K
     refine norm_ (a' := ?_) ?_ ?_
     rotate_left
     ·
      show Act.put _ (some 38) _ = _
      simp only [Act.put, List.setIfInBounds_toArray, List.set_cons_zero, List.set_cons_succ, i64_w, i32_w]
      rfl
     refine one_ (i := 3) (N := some 39) #[true, true, true, true, false, false, false, false, false] rfl rfl (one_of HT_.out (by kernel_rfl)) (by decide) (fun K hK => ?_)
     refine goes_ Tryz.func25 (by kernel_rfl) rfl #[.agg #[.slice A0_0 l0_0.length c0_0, .int .i64 a0_1], .slice Ao183 t106.length co183] (by rfl) rfl rfl (qzz4_) ?_
     with_reducible refine (path_Get.calls kj3 _ _ l0_0 a0_1 _ _ t106 t109 t110 _ ?side1 ?side2 ?side3 ?side4 (hG.below (qzz1_)) A29.out).mono ?_
     (case side1 => repeat (first | exact (Kd.C_below HR0_0.out HB.out) | (with_reducible refine Kd.C_alloc ?_ _) | (with_reducible refine Kd.C_drewN ?_ _) | (with_reducible refine Kd.C_drew ?_)))
     (case side2 => exact HC0_0.out)
     (case side3 => repeat (first | exact (Kd.R_reads' HO108.out).2.2 | (with_reducible refine Kd.C_alloc ?_ _) | (with_reducible refine Kd.C_drewN ?_ _) | (with_reducible refine Kd.C_drew ?_)))
     (case side4 => exact (Kd.R_reads' HO108.out).2.1)
     rintro e w184 ⟨rfl, hb⟩
     refine ⟨_, rfl, ?_⟩
     have n0_ := Aside0.mk (Kd.R_below (qzz3_) hb)
     have n1_ := Aside0.mk (blk_below (g := gb101) (o := .cells #[.slice A0_0 l0_0.length c0_0, .int .i64 a0_1] 24 (0, 0)) (qzz2_) hb)
     have n2_ := Aside0.mk (below_step (qzz0_) hb)
     clear HO108
     clear BK101
     clear HB
     have HO108 := n0_
     have BK101 := n1_
     have HB := n2_
     clear n0_ n1_ n2_
     (try clear hb)
     (try clear hb2)
     (try clear hk)
     (try clear hi)
     refine hK.out _ _ ⟨(blk_cell BK101.out 0).trans rfl, (blk_cell BK101.out 1).trans rfl⟩ (fun hHeld => ?_)
     clear hK K
     refine norm_ (a' := ?_) ?_ ?_
     rotate_left
     ·
      show Act.put _ (some 39) _ = _
      simp only [Act.put, List.setIfInBounds_toArray, List.set_cons_zero, List.set_cons_succ, i64_w, i32_w]
      rfl
     refine pure_ (i := 4) (N := some 35) (v := ?_) (a' := ?_) #[true, true, true, true, true, false, false, false, false] rfl rfl (any_of HT_.out (by kernel_rfl)) (fun _ _ _ h => h) (Or.inl ⟨by rfl, ?_⟩) ?_ ?_
     rotate_left
     exact qzz21_
     rotate_left
     exact qzz22_
     refine pure_ (i := 5) (N := some 40) (v := ?_) (a' := ?_) #[true, true, true, true, true, true, false, false, false] rfl rfl (any_of HT_.out (by kernel_rfl)) (fun _ _ _ h => h) (Or.inl ⟨by rfl, ?_⟩) ?_ ?_
     rotate_left
     exact qzz21_
     rotate_left
     exact qzz22_
     refine pure_ (i := 6) (N := some 41) (v := ?_) (a' := ?_) #[true, true, true, true, true, true, true, false, false] rfl rfl (any_of HT_.out (by kernel_rfl)) (fun _ _ _ h => h) (Or.inl ⟨by rfl, ?_⟩) ?_ ?_
     rotate_left
     exact qzz21_
     rotate_left
     exact qzz22_
     refine pure_ (i := 7) (N := some 7) (v := ?_) (a' := ?_) #[true, true, true, true, true, true, true, true, false] rfl rfl (any_of HT_.out (by kernel_rfl)) (fun _ _ _ h => h) (Or.inl ⟨by rfl, ?_⟩) ?_ ?_
     rotate_left
     exact qzz21_
     rotate_left
     exact qzz22_
     refine pure_ (i := 8) (N := some 8) (v := ?_) (a' := ?_) #[true, true, true, true, true, true, true, true, true] rfl rfl (any_of HT_.out (by kernel_rfl)) (fun _ _ _ h => h) (Or.inl ⟨by rfl, ?_⟩) ?_ ?_
     rotate_left
     exact qzz21_
     rotate_left
     exact qzz22_
     refine done_ (done_of HT_.out (by kernel_rfl)) ?_
     try go_wp2
     have n0_ := Aside0.mk (Kd.R_drew HO108.out)
     have n1_ := Aside0.mk (blk_drew BK101.out)
     have n2_ := Aside0.mk (below_drew1 HB.out)
     clear HO108
     clear BK101
     clear HB
     have HO108 := n0_
     have BK101 := n1_
     have HB := n2_
     clear n0_ n1_ n2_
     refine start_ (n := 12) (S := fun w' => w'.cell? ⟨gb101, 0, none⟩ = some (.slice A0_0 l0_0.length c0_0) ∧ w'.cell? ⟨gb101, 1, none⟩ = some (.int .i64 a0_1)) (ds := []) #[false, false, false, false, false, false, false, false, false, false, false, false] (by kernel_rfl) rfl rfl ⟨(blk_cell BK101.out 0).trans rfl, (blk_cell BK101.out 1).trans rfl⟩ (fun hHeld => ?_); refine with_tabW grommetlaw16_PathOn.tab4 grommetlaw16_PathOn.bits4 (fun HT_ HW_ => ?_)
     generalize w184.drew = w185 at HO108 BK101 HB hHeld ⊢
     refine pure_ (i := 1) (N := some 44) (v := ?_) (a' := ?_) #[false, true, false, false, false, false, false, false, false, false, false, false] rfl rfl (any_of HT_.out (by kernel_rfl)) (fun _ _ _ h => h) (Or.inl ⟨by rfl, ?_⟩) ?_ ?_
     rotate_left
     exact qzz21_
     rotate_left
     exact qzz22_
     refine pure_ (i := 3) (N := some 46) (v := ?_) (a' := ?_) #[false, true, false, true, false, false, false, false, false, false, false, false] rfl rfl (any_of HT_.out (by kernel_rfl)) (fun _ _ _ h => h) (Or.inl ⟨by rfl, ?_⟩) ?_ ?_
     rotate_left
     exact qzz21_
     rotate_left
     exact qzz22_
     refine take_ (i := 0) (N := some 43) (v := ?_) (a' := ?_) #[true, true, false, true, false, false, false, false, false, false, false, false] rfl rfl (take_ofW HT_.out HW_.out (by kernel_rfl)) (fun _ _ _ h => h) (Or.inl ⟨by rfl, ?_⟩) hHeld ?_ ?_
     rotate_left
     exact qzz23_
     rotate_left
     exact qzz22_
     refine one_ (i := 2) (N := some 45) #[true, true, true, true, false, false, false, false, false, false, false, false] rfl rfl (one_of HT_.out (by kernel_rfl)) (by decide) (fun K hK => ?_)
     refine Kd.R_append_rows_step k58 (w0 := w) w.heap.size (by rfl) (.const (.slice none 0 0)) (.tmp 44) 47 58 (.agg #[(.string ⟨#[]⟩), (.int .i64 0), (.bool false)]) 32 rfl Tryz.underlying47 info58 rfl (by decide) (by omega) (.slice none 0 0) ([] : List (S58)) l1 _ _ _ (fun _ => True) (fun _ => False) rfl rfl ?aO ?aR (fun _ _ h => h) (fun _ h => h.elim) ?aF ?aB ?aS ?aL ?_
     (case aR => repeat (first | exact (Kd.C_below HR1.out HB.out) | (with_reducible refine Kd.C_alloc ?_ _) | (with_reducible refine Kd.C_drewN ?_ _) | (with_reducible refine Kd.C_drew ?_)))
     (case aB => exact (qzz0_))
     (case aF => exact (fun _ _ => trivial))
     (case aO => exact ((Kd.R_nil _ _ _ _ (fun _ => True))))
     (case aS => exact (below_size (qzz0_)))
     (case aL => have := LMc30.out; omega)
     intro v112 w186 ho hb hg hat
     rw [← Ny111.out] at ho
     have n0_ := Aside0.mk (blk_grown (g := gb101) (o := .cells #[.slice A0_0 l0_0.length c0_0, .int .i64 a0_1] 24 (0, 0)) (qzz2_) hg (by simp [Value.ownBlock]))
     have n1_ := Aside0.mk (Kd.R_grown (qzz3_) hg (fun _ _ => by simp [Value.ownBlock]))
     have n2_ := Aside0.mk (hb)
     have n3_ := Aside0.mk (ho)
     clear BK101
     clear HO108
     clear HB
     have BK101 := n0_
     have HO108 := n1_
     have HB := n2_
     have HO113 := n3_
     clear n0_ n1_ n2_ n3_
     clear ho hb hg hat
     refine hK.out _ _ ⟨(blk_cell BK101.out 0).trans rfl, (blk_cell BK101.out 1).trans rfl⟩ (fun hHeld => ?_)
     clear hK K
     refine norm_ (a' := ?_) ?_ ?_
     rotate_left
     ·
      show Act.put _ (some 45) _ = _
      simp only [Act.put, List.setIfInBounds_toArray, List.set_cons_zero, List.set_cons_succ, i64_w, i32_w]
      rfl
     refine one_ (i := 4) (N := some 47) #[true, true, true, true, true, false, false, false, false, false, false, false] rfl rfl (one_of HT_.out (by kernel_rfl)) (by decide) (fun K hK => ?_)
     refine Kd.R_append_rows_step k58 (w0 := w) w.heap.size (by rfl) (.tmp 45) (.tmp 46) 47 58 (.agg #[(.string ⟨#[]⟩), (.int .i64 0), (.bool false)]) 32 rfl Tryz.underlying47 info58 rfl (by decide) (by omega) v112 y111 l2 _ _ _ (fun _ => True) (fun _ => False) rfl rfl ?aO ?aR (fun _ _ h => h) (fun _ h => h.elim) ?aF ?aB ?aS ?aL ?_
     (case aR => repeat (first | exact (Kd.C_below HR2.out HB.out) | (with_reducible refine Kd.C_alloc ?_ _) | (with_reducible refine Kd.C_drewN ?_ _) | (with_reducible refine Kd.C_drew ?_)))
     (case aB => exact (qzz0_))
     (case aF => exact (fun _ _ => trivial))
     (case aO => exact (qzz10_))
     (case aS => exact (below_size (qzz0_)))
     (case aL => have := LMc31.out; omega)
     intro v115 w187 ho hb hg hat
     rw [← Ny114.out] at ho
     have n0_ := Aside0.mk (blk_grown (g := gb101) (o := .cells #[.slice A0_0 l0_0.length c0_0, .int .i64 a0_1] 24 (0, 0)) (qzz2_) hg (Kd.R_ne HO113.out BK101.out (by decide)))
     have n1_ := Aside0.mk (Kd.R_over' (qzz3_) (Kd.R_typed (qzz10_)) (by decide) hg)
     have n2_ := Aside0.mk (hb)
     have n3_ := Aside0.mk (ho)
     clear BK101
     clear HO108
     clear HB
     clear HO113
     have BK101 := n0_
     have HO108 := n1_
     have HB := n2_
     have HO116 := n3_
     clear n0_ n1_ n2_ n3_
     clear ho hb hg hat
     obtain ⟨Ao188, co188, eo188⟩ := Kd.R_slice HO116.out
     (first | subst eo188 | (injection eo188 with f1_ f2_ f3_; have f4_ := f1_.symm; have f5_ := f3_.symm; clear f1_ f2_ f3_; subst f4_; subst f5_))
     refine hK.out _ _ ⟨(blk_cell BK101.out 0).trans rfl, (blk_cell BK101.out 1).trans rfl⟩ (fun hHeld => ?_)
     clear hK K
     refine norm_ (a' := ?_) ?_ ?_
     rotate_left
     ·
      show Act.put _ (some 47) _ = _
      simp only [Act.put, List.setIfInBounds_toArray, List.set_cons_zero, List.set_cons_succ, i64_w, i32_w]
      rfl
     refine one_ (i := 5) (N := some 48) #[true, true, true, true, true, true, false, false, false, false, false, false] rfl rfl (one_of HT_.out (by kernel_rfl)) (by decide) (fun K hK => ?_)
     refine goes_ Tryz.func26 (by kernel_rfl) rfl #[.slice Ao188 y114.length co188] (by rfl) rfl rfl (qzz4_) ?_
     with_reducible refine (grommetlaw16_theirs.calls kj3 _ _ y114 t117 _ ?side1 ?side2 (hG.below (qzz1_)) A32.out).mono ?_
     (case side1 => repeat (first | exact (Kd.R_reads' HO116.out).2.2 | (with_reducible refine Kd.C_alloc ?_ _) | (with_reducible refine Kd.C_drewN ?_ _) | (with_reducible refine Kd.C_drew ?_)))
     (case side2 => exact (Kd.R_reads' HO116.out).2.1)
     rintro e w189 ⟨v118, rfl, ho0, hb⟩
     refine ⟨_, rfl, ?_⟩
     have n0_ := Aside0.mk (Kd.R_elder' (qzz3_) (Kd.R_base ho0) hb)
     have n1_ := Aside0.mk (Kd.R_below (qzz6_) hb)
     have n2_ := Aside0.mk (Kd.R_lower (Kd.R_new' ho0 (Kd.R_lt (qzz3_))) (below_size (qzz0_)))
     have n3_ := Aside0.mk (blk_below (g := gb101) (o := .cells #[.slice A0_0 l0_0.length c0_0, .int .i64 a0_1] 24 (0, 0)) (qzz2_) hb)
     have n4_ := Aside0.mk (below_step (qzz0_) hb)
     clear HO108
     clear HO116
     clear BK101
     clear HB
     have HO108 := n0_
     have HO116 := n1_
     have HO119 := n2_
     have BK101 := n3_
     have HB := n4_
     clear n0_ n1_ n2_ n3_ n4_
     (try clear hb)
     (try clear hb2)
     (try clear hk)
     (try clear hi)
     (try clear ho0)
     obtain ⟨Ao190, co190, eo190⟩ := Kd.R_slice HO119.out
     (first | subst eo190 | (injection eo190 with f1_ f2_ f3_; have f4_ := f1_.symm; have f5_ := f3_.symm; clear f1_ f2_ f3_; subst f4_; subst f5_))
     refine hK.out _ _ ⟨(blk_cell BK101.out 0).trans rfl, (blk_cell BK101.out 1).trans rfl⟩ (fun hHeld => ?_)
     clear hK K
     refine norm_ (a' := ?_) ?_ ?_
     rotate_left
     ·
      show Act.put _ (some 48) _ = _
      simp only [Act.put, List.setIfInBounds_toArray, List.set_cons_zero, List.set_cons_succ, i64_w, i32_w]
      rfl
     refine one_ (i := 6) (N := some 49) #[true, true, true, true, true, true, true, false, false, false, false, false] rfl rfl (one_of HT_.out (by kernel_rfl)) (by decide) (fun K hK => ?_)
     refine goes_ Tryz.func25 (by kernel_rfl) rfl #[.agg #[.slice A0_0 l0_0.length c0_0, .int .i64 a0_1], .slice Ao190 t117.length co190] (by rfl) rfl rfl (qzz4_) ?_
     with_reducible refine (path_Get.calls kj3 _ _ l0_0 a0_1 _ _ t117 t120 t121 _ ?side1 ?side2 ?side3 ?side4 (hG.below (qzz1_)) A33.out).mono ?_
     (case side1 => repeat (first | exact (Kd.C_below HR0_0.out HB.out) | (with_reducible refine Kd.C_alloc ?_ _) | (with_reducible refine Kd.C_drewN ?_ _) | (with_reducible refine Kd.C_drew ?_)))
     (case side2 => exact HC0_0.out)
     (case side3 => repeat (first | exact (Kd.R_reads' HO119.out).2.2 | (with_reducible refine Kd.C_alloc ?_ _) | (with_reducible refine Kd.C_drewN ?_ _) | (with_reducible refine Kd.C_drew ?_)))
     (case side4 => exact (Kd.R_reads' HO119.out).2.1)
     rintro e w191 ⟨rfl, hb⟩
     refine ⟨_, rfl, ?_⟩
     have n0_ := Aside0.mk (Kd.R_below (qzz3_) hb)
     have n1_ := Aside0.mk (Kd.R_below (qzz6_) hb)
     have n2_ := Aside0.mk (Kd.R_below (qzz5_) hb)
     have n3_ := Aside0.mk (blk_below (g := gb101) (o := .cells #[.slice A0_0 l0_0.length c0_0, .int .i64 a0_1] 24 (0, 0)) (qzz2_) hb)
     have n4_ := Aside0.mk (below_step (qzz0_) hb)
     clear HO108
     clear HO116
     clear HO119
     clear BK101
     clear HB
     have HO108 := n0_
     have HO116 := n1_
     have HO119 := n2_
     have BK101 := n3_
     have HB := n4_
     clear n0_ n1_ n2_ n3_ n4_
     (try clear hb)
     (try clear hb2)
     (try clear hk)
     (try clear hi)
     refine hK.out _ _ ⟨(blk_cell BK101.out 0).trans rfl, (blk_cell BK101.out 1).trans rfl⟩ (fun hHeld => ?_)
     clear hK K
     refine norm_ (a' := ?_) ?_ ?_
     rotate_left
     ·
      show Act.put _ (some 49) _ = _
      simp only [Act.put, List.setIfInBounds_toArray, List.set_cons_zero, List.set_cons_succ, i64_w, i32_w]
      rfl
     refine pure_ (i := 7) (N := some 42) (v := ?_) (a' := ?_) #[true, true, true, true, true, true, true, true, false, false, false, false] rfl rfl (any_of HT_.out (by kernel_rfl)) (fun _ _ _ h => h) (Or.inl ⟨by rfl, ?_⟩) ?_ ?_
     rotate_left
     exact qzz21_
     rotate_left
     exact qzz22_
     refine pure_ (i := 8) (N := some 50) (v := ?_) (a' := ?_) #[true, true, true, true, true, true, true, true, true, false, false, false] rfl rfl (any_of HT_.out (by kernel_rfl)) (fun _ _ _ h => h) (Or.inl ⟨by rfl, ?_⟩) ?_ ?_
     rotate_left
     exact qzz21_
     rotate_left
     exact qzz22_
     refine pure_ (i := 9) (N := some 51) (v := ?_) (a' := ?_) #[true, true, true, true, true, true, true, true, true, true, false, false] rfl rfl (any_of HT_.out (by kernel_rfl)) (fun _ _ _ h => h) (Or.inl ⟨by rfl, ?_⟩) ?_ ?_
     rotate_left
     exact qzz21_
     rotate_left
     exact qzz22_
     refine pure_ (i := 10) (N := some 9) (v := ?_) (a' := ?_) #[true, true, true, true, true, true, true, true, true, true, true, false] rfl rfl (any_of HT_.out (by kernel_rfl)) (fun _ _ _ h => h) (Or.inl ⟨by rfl, ?_⟩) ?_ ?_
     rotate_left
     exact qzz21_
     rotate_left
     exact qzz22_
     refine pure_ (i := 11) (N := some 10) (v := ?_) (a' := ?_) #[true, true, true, true, true, true, true, true, true, true, true, true] rfl rfl (any_of HT_.out (by kernel_rfl)) (fun _ _ _ h => h) (Or.inl ⟨by rfl, ?_⟩) ?_ ?_
     rotate_left
     exact qzz21_
     rotate_left
     exact qzz22_
     refine done_ (done_of HT_.out (by kernel_rfl)) ?_
     try go_wp2_with (first | ((with_reducible refine gate_callee (f := 26) rfl ?_); refine goesL_ (some 54) rfl rfl Tryz.func26 (by kernel_rfl) rfl #[.slice A2 l2.length c2] rfl (qzz4_) ?_; (with_reducible refine (grommetlaw16_theirs.calls kj3 _ _ l2 t122 _ ?side1 ?side2 (hG.below (qzz1_)) A34.out).mono ?_); (case side1 => repeat (first | exact (Kd.C_below HR2.out HB.out) | (with_reducible refine Kd.C_alloc ?_ _) | (with_reducible refine Kd.C_drewN ?_ _) | (with_reducible refine Kd.C_drew ?_))); (case side2 => exact HC2.out); rintro e w192 ⟨v123, rfl, ho0, hb⟩; refine ⟨_, rfl, ?_⟩; have n0_ := Aside0.mk (Kd.R_elder' (qzz3_) (Kd.R_base ho0) hb); have n1_ := Aside0.mk (Kd.R_below (qzz6_) hb); have n2_ := Aside0.mk (Kd.R_elder' (qzz5_) (Kd.R_base ho0) hb); have n3_ := Aside0.mk (Kd.R_lower (Kd.R_new' (Kd.R_new' ho0 (Kd.R_lt (qzz3_))) (Kd.R_lt (qzz5_))) (below_size (qzz0_))); have n4_ := Aside0.mk (blk_below (g := gb101) (o := .cells #[.slice A0_0 l0_0.length c0_0, .int .i64 a0_1] 24 (0, 0)) (qzz2_) hb); have n5_ := Aside0.mk (below_step (qzz0_) hb); clear HO108; clear HO116; clear HO119; clear BK101; clear HB; have HO108 := n0_; have HO116 := n1_; have HO119 := n2_; have HO124 := n3_; have BK101 := n4_; have HB := n5_; clear n0_ n1_ n2_ n3_ n4_ n5_; (try clear hb); (try clear hk); (try clear ho0); obtain ⟨Ao193, co193, eo193⟩ := Kd.R_slice HO124.out; subst eo193) | ((with_reducible refine gate_callee (f := 28) rfl ?_); refine goesL_ (some 55) rfl rfl Tryz.func28 (by kernel_rfl) rfl #[.slice Ao193 t122.length co193] rfl (qzz4_) ?_; (with_reducible refine (path_Format.calls _ _ t122 t125 t126 _ ?side1 ?side2 (hG.below (qzz1_)) A35.out).mono ?_); (case side1 => repeat (first | exact (Kd.R_reads' HO124.out).2.2 | (with_reducible refine Kd.C_alloc ?_ _) | (with_reducible refine Kd.C_drewN ?_ _) | (with_reducible refine Kd.C_drew ?_))); (case side2 => exact (Kd.R_reads' HO124.out).2.1); rintro e w194 ⟨rfl, hb⟩; refine ⟨_, rfl, ?_⟩; have n0_ := Aside0.mk (Kd.R_below (qzz3_) hb); have n1_ := Aside0.mk (Kd.R_below (qzz6_) hb); have n2_ := Aside0.mk (Kd.R_below (qzz5_) hb); have n3_ := Aside0.mk (Kd.R_below (qzz8_) hb); have n4_ := Aside0.mk (blk_below (g := gb101) (o := .cells #[.slice A0_0 l0_0.length c0_0, .int .i64 a0_1] 24 (0, 0)) (qzz2_) hb); have n5_ := Aside0.mk (below_step (qzz0_) hb); clear HO108; clear HO116; clear HO119; clear HO124; clear BK101; clear HB; have HO108 := n0_; have HO116 := n1_; have HO119 := n2_; have HO124 := n3_; have BK101 := n4_; have HB := n5_; clear n0_ n1_ n2_ n3_ n4_ n5_; (try clear hb); (try clear hk)))
     go_ret
     exact ⟨qzz16_, qzz0_⟩
    rw [if_pos c134] at H
    have c134b0 : (t110 == t121) = true := beq_iff_eq.mpr c134
    have c134b1 : (t110 != t121) = false := bne_eq_false_iff_eq.mpr c134
    clear c134
    by_cases c135 : t109 = 0
    rotate_left
    ·
     rw [if_neg c135] at H
     have c135b0 : (t109 == 0) = false := beq_eq_false_iff_ne.mpr c135
     have c135b1 : (t109 != 0) = true := bne_iff_ne.mpr c135
     obtain rfl := Option.some.inj H
     try go_wp2
     have n0_ := Aside0.mk (blk_drew BK101.out)
     have n1_ := Aside0.mk (below_drew1 HB.out)
     clear BK101
     clear HB
     have BK101 := n0_
     have HB := n1_
     clear n0_ n1_
     refine start_ (n := 9) (S := fun w' => w'.cell? ⟨gb101, 0, none⟩ = some (.slice A0_0 l0_0.length c0_0) ∧ w'.cell? ⟨gb101, 1, none⟩ = some (.int .i64 a0_1)) (ds := []) #[false, false, false, false, false, false, false, false, false] (by kernel_rfl) rfl rfl ⟨(blk_cell BK101.out 0).trans rfl, (blk_cell BK101.out 1).trans rfl⟩ (fun hHeld => ?_); refine with_tabW grommetlaw16_PathOn.tab3 grommetlaw16_PathOn.bits3 (fun HT_ HW_ => ?_)
     generalize wc.drew = w167 at BK101 HB hHeld ⊢
     refine pure_ (i := 1) (N := some 37) (v := ?_) (a' := ?_) #[false, true, false, false, false, false, false, false, false] rfl rfl (any_of HT_.out (by kernel_rfl)) (fun _ _ _ h => h) (Or.inl ⟨by rfl, ?_⟩) ?_ ?_
     rotate_left
     exact qzz21_
     rotate_left
     exact qzz22_
     refine take_ (i := 0) (N := some 36) (v := ?_) (a' := ?_) #[true, true, false, false, false, false, false, false, false] rfl rfl (take_ofW HT_.out HW_.out (by kernel_rfl)) (fun _ _ _ h => h) (Or.inl ⟨by rfl, ?_⟩) hHeld ?_ ?_
     rotate_left
     exact qzz23_
     rotate_left
     exact qzz22_
     refine one_ (i := 2) (N := some 38) #[true, true, true, false, false, false, false, false, false] rfl rfl (one_of HT_.out (by kernel_rfl)) (by decide) (fun K hK => ?_)
     refine goes_ Tryz.func26 (by kernel_rfl) rfl #[.slice A1 l1.length c1] (by rfl) rfl rfl (qzz4_) ?_
     with_reducible refine (grommetlaw16_theirs.calls kj3 _ _ l1 t106 _ ?side1 ?side2 (hG.below (qzz1_)) A28.out).mono ?_
     (case side1 => repeat (first | exact (Kd.C_below HR1.out HB.out) | (with_reducible refine Kd.C_alloc ?_ _) | (with_reducible refine Kd.C_drewN ?_ _) | (with_reducible refine Kd.C_drew ?_)))
     (case side2 => exact HC1.out)
     rintro e w168 ⟨v107, rfl, ho0, hb⟩
     refine ⟨_, rfl, ?_⟩
     have n0_ := Aside0.mk (Kd.R_lower ho0 (below_size (qzz0_)))
     have n1_ := Aside0.mk (blk_below (g := gb101) (o := .cells #[.slice A0_0 l0_0.length c0_0, .int .i64 a0_1] 24 (0, 0)) (qzz2_) hb)
     have n2_ := Aside0.mk (below_step (qzz0_) hb)
     clear BK101
     clear HB
     have HO108 := n0_
     have BK101 := n1_
     have HB := n2_
     clear n0_ n1_ n2_
     (try clear hb)
     (try clear hb2)
     (try clear hk)
     (try clear hi)
     (try clear ho0)
     obtain ⟨Ao169, co169, eo169⟩ := Kd.R_slice HO108.out
     (first | subst eo169 | (injection eo169 with f1_ f2_ f3_; have f4_ := f1_.symm; have f5_ := f3_.symm; clear f1_ f2_ f3_; subst f4_; subst f5_))
     refine hK.out _ _ ⟨(blk_cell BK101.out 0).trans rfl, (blk_cell BK101.out 1).trans rfl⟩ (fun hHeld => ?_)
     clear hK K
     refine norm_ (a' := ?_) ?_ ?_
     rotate_left
     ·
      show Act.put _ (some 38) _ = _
      simp only [Act.put, List.setIfInBounds_toArray, List.set_cons_zero, List.set_cons_succ, i64_w, i32_w]
      rfl
     refine one_ (i := 3) (N := some 39) #[true, true, true, true, false, false, false, false, false] rfl rfl (one_of HT_.out (by kernel_rfl)) (by decide) (fun K hK => ?_)
     refine goes_ Tryz.func25 (by kernel_rfl) rfl #[.agg #[.slice A0_0 l0_0.length c0_0, .int .i64 a0_1], .slice Ao169 t106.length co169] (by rfl) rfl rfl (qzz4_) ?_
     with_reducible refine (path_Get.calls kj3 _ _ l0_0 a0_1 _ _ t106 t109 t110 _ ?side1 ?side2 ?side3 ?side4 (hG.below (qzz1_)) A29.out).mono ?_
     (case side1 => repeat (first | exact (Kd.C_below HR0_0.out HB.out) | (with_reducible refine Kd.C_alloc ?_ _) | (with_reducible refine Kd.C_drewN ?_ _) | (with_reducible refine Kd.C_drew ?_)))
     (case side2 => exact HC0_0.out)
     (case side3 => repeat (first | exact (Kd.R_reads' HO108.out).2.2 | (with_reducible refine Kd.C_alloc ?_ _) | (with_reducible refine Kd.C_drewN ?_ _) | (with_reducible refine Kd.C_drew ?_)))
     (case side4 => exact (Kd.R_reads' HO108.out).2.1)
     rintro e w170 ⟨rfl, hb⟩
     refine ⟨_, rfl, ?_⟩
     have n0_ := Aside0.mk (Kd.R_below (qzz3_) hb)
     have n1_ := Aside0.mk (blk_below (g := gb101) (o := .cells #[.slice A0_0 l0_0.length c0_0, .int .i64 a0_1] 24 (0, 0)) (qzz2_) hb)
     have n2_ := Aside0.mk (below_step (qzz0_) hb)
     clear HO108
     clear BK101
     clear HB
     have HO108 := n0_
     have BK101 := n1_
     have HB := n2_
     clear n0_ n1_ n2_
     (try clear hb)
     (try clear hb2)
     (try clear hk)
     (try clear hi)
     refine hK.out _ _ ⟨(blk_cell BK101.out 0).trans rfl, (blk_cell BK101.out 1).trans rfl⟩ (fun hHeld => ?_)
     clear hK K
     refine norm_ (a' := ?_) ?_ ?_
     rotate_left
     ·
      show Act.put _ (some 39) _ = _
      simp only [Act.put, List.setIfInBounds_toArray, List.set_cons_zero, List.set_cons_succ, i64_w, i32_w]
      rfl
     refine pure_ (i := 4) (N := some 35) (v := ?_) (a' := ?_) #[true, true, true, true, true, false, false, false, false] rfl rfl (any_of HT_.out (by kernel_rfl)) (fun _ _ _ h => h) (Or.inl ⟨by rfl, ?_⟩) ?_ ?_
     rotate_left
     exact qzz21_
     rotate_left
     exact qzz22_
     refine pure_ (i := 5) (N := some 40) (v := ?_) (a' := ?_) #[true, true, true, true, true, true, false, false, false] rfl rfl (any_of HT_.out (by kernel_rfl)) (fun _ _ _ h => h) (Or.inl ⟨by rfl, ?_⟩) ?_ ?_
     rotate_left
     exact qzz21_
     rotate_left
     exact qzz22_
     refine pure_ (i := 6) (N := some 41) (v := ?_) (a' := ?_) #[true, true, true, true, true, true, true, false, false] rfl rfl (any_of HT_.out (by kernel_rfl)) (fun _ _ _ h => h) (Or.inl ⟨by rfl, ?_⟩) ?_ ?_
     rotate_left
     exact qzz21_
     rotate_left
     exact qzz22_
     refine pure_ (i := 7) (N := some 7) (v := ?_) (a' := ?_) #[true, true, true, true, true, true, true, true, false] rfl rfl (any_of HT_.out (by kernel_rfl)) (fun _ _ _ h => h) (Or.inl ⟨by rfl, ?_⟩) ?_ ?_
     rotate_left
     exact qzz21_
     rotate_left
     exact qzz22_
     refine pure_ (i := 8) (N := some 8) (v := ?_) (a' := ?_) #[true, true, true, true, true, true, true, true, true] rfl rfl (any_of HT_.out (by kernel_rfl)) (fun _ _ _ h => h) (Or.inl ⟨by rfl, ?_⟩) ?_ ?_
     rotate_left
     exact qzz21_
     rotate_left
     exact qzz22_
     refine done_ (done_of HT_.out (by kernel_rfl)) ?_
     try go_wp2
     have n0_ := Aside0.mk (Kd.R_drew HO108.out)
     have n1_ := Aside0.mk (blk_drew BK101.out)
     have n2_ := Aside0.mk (below_drew1 HB.out)
     clear HO108
     clear BK101
     clear HB
     have HO108 := n0_
     have BK101 := n1_
     have HB := n2_
     clear n0_ n1_ n2_
     refine start_ (n := 12) (S := fun w' => w'.cell? ⟨gb101, 0, none⟩ = some (.slice A0_0 l0_0.length c0_0) ∧ w'.cell? ⟨gb101, 1, none⟩ = some (.int .i64 a0_1)) (ds := []) #[false, false, false, false, false, false, false, false, false, false, false, false] (by kernel_rfl) rfl rfl ⟨(blk_cell BK101.out 0).trans rfl, (blk_cell BK101.out 1).trans rfl⟩ (fun hHeld => ?_); refine with_tabW grommetlaw16_PathOn.tab4 grommetlaw16_PathOn.bits4 (fun HT_ HW_ => ?_)
     generalize w170.drew = w171 at HO108 BK101 HB hHeld ⊢
     refine pure_ (i := 1) (N := some 44) (v := ?_) (a' := ?_) #[false, true, false, false, false, false, false, false, false, false, false, false] rfl rfl (any_of HT_.out (by kernel_rfl)) (fun _ _ _ h => h) (Or.inl ⟨by rfl, ?_⟩) ?_ ?_
     rotate_left
     exact qzz21_
     rotate_left
     exact qzz22_
     refine pure_ (i := 3) (N := some 46) (v := ?_) (a' := ?_) #[false, true, false, true, false, false, false, false, false, false, false, false] rfl rfl (any_of HT_.out (by kernel_rfl)) (fun _ _ _ h => h) (Or.inl ⟨by rfl, ?_⟩) ?_ ?_
     rotate_left
     exact qzz21_
     rotate_left
     exact qzz22_
     refine take_ (i := 0) (N := some 43) (v := ?_) (a' := ?_) #[true, true, false, true, false, false, false, false, false, false, false, false] rfl rfl (take_ofW HT_.out HW_.out (by kernel_rfl)) (fun _ _ _ h => h) (Or.inl ⟨by rfl, ?_⟩) hHeld ?_ ?_
     rotate_left
     exact qzz23_
     rotate_left
     exact qzz22_
     refine one_ (i := 2) (N := some 45) #[true, true, true, true, false, false, false, false, false, false, false, false] rfl rfl (one_of HT_.out (by kernel_rfl)) (by decide) (fun K hK => ?_)
     refine Kd.R_append_rows_step k58 (w0 := w) w.heap.size (by rfl) (.const (.slice none 0 0)) (.tmp 44) 47 58 (.agg #[(.string ⟨#[]⟩), (.int .i64 0), (.bool false)]) 32 rfl Tryz.underlying47 info58 rfl (by decide) (by omega) (.slice none 0 0) ([] : List (S58)) l1 _ _ _ (fun _ => True) (fun _ => False) rfl rfl ?aO ?aR (fun _ _ h => h) (fun _ h => h.elim) ?aF ?aB ?aS ?aL ?_
     (case aR => repeat (first | exact (Kd.C_below HR1.out HB.out) | (with_reducible refine Kd.C_alloc ?_ _) | (with_reducible refine Kd.C_drewN ?_ _) | (with_reducible refine Kd.C_drew ?_)))
     (case aB => exact (qzz0_))
     (case aF => exact (fun _ _ => trivial))
     (case aO => exact ((Kd.R_nil _ _ _ _ (fun _ => True))))
     (case aS => exact (below_size (qzz0_)))
     (case aL => have := LMc30.out; omega)
     intro v112 w172 ho hb hg hat
     rw [← Ny111.out] at ho
     have n0_ := Aside0.mk (blk_grown (g := gb101) (o := .cells #[.slice A0_0 l0_0.length c0_0, .int .i64 a0_1] 24 (0, 0)) (qzz2_) hg (by simp [Value.ownBlock]))
     have n1_ := Aside0.mk (Kd.R_grown (qzz3_) hg (fun _ _ => by simp [Value.ownBlock]))
     have n2_ := Aside0.mk (hb)
     have n3_ := Aside0.mk (ho)
     clear BK101
     clear HO108
     clear HB
     have BK101 := n0_
     have HO108 := n1_
     have HB := n2_
     have HO113 := n3_
     clear n0_ n1_ n2_ n3_
     clear ho hb hg hat
     refine hK.out _ _ ⟨(blk_cell BK101.out 0).trans rfl, (blk_cell BK101.out 1).trans rfl⟩ (fun hHeld => ?_)
     clear hK K
     refine norm_ (a' := ?_) ?_ ?_
     rotate_left
     ·
      show Act.put _ (some 45) _ = _
      simp only [Act.put, List.setIfInBounds_toArray, List.set_cons_zero, List.set_cons_succ, i64_w, i32_w]
      rfl
     refine one_ (i := 4) (N := some 47) #[true, true, true, true, true, false, false, false, false, false, false, false] rfl rfl (one_of HT_.out (by kernel_rfl)) (by decide) (fun K hK => ?_)
     refine Kd.R_append_rows_step k58 (w0 := w) w.heap.size (by rfl) (.tmp 45) (.tmp 46) 47 58 (.agg #[(.string ⟨#[]⟩), (.int .i64 0), (.bool false)]) 32 rfl Tryz.underlying47 info58 rfl (by decide) (by omega) v112 y111 l2 _ _ _ (fun _ => True) (fun _ => False) rfl rfl ?aO ?aR (fun _ _ h => h) (fun _ h => h.elim) ?aF ?aB ?aS ?aL ?_
     (case aR => repeat (first | exact (Kd.C_below HR2.out HB.out) | (with_reducible refine Kd.C_alloc ?_ _) | (with_reducible refine Kd.C_drewN ?_ _) | (with_reducible refine Kd.C_drew ?_)))
     (case aB => exact (qzz0_))
     (case aF => exact (fun _ _ => trivial))
     (case aO => exact (qzz10_))
     (case aS => exact (below_size (qzz0_)))
     (case aL => have := LMc31.out; omega)
     intro v115 w173 ho hb hg hat
     rw [← Ny114.out] at ho
     have n0_ := Aside0.mk (blk_grown (g := gb101) (o := .cells #[.slice A0_0 l0_0.length c0_0, .int .i64 a0_1] 24 (0, 0)) (qzz2_) hg (Kd.R_ne HO113.out BK101.out (by decide)))
     have n1_ := Aside0.mk (Kd.R_over' (qzz3_) (Kd.R_typed (qzz10_)) (by decide) hg)
     have n2_ := Aside0.mk (hb)
     have n3_ := Aside0.mk (ho)
     clear BK101
     clear HO108
     clear HB
     clear HO113
     have BK101 := n0_
     have HO108 := n1_
     have HB := n2_
     have HO116 := n3_
     clear n0_ n1_ n2_ n3_
     clear ho hb hg hat
     obtain ⟨Ao174, co174, eo174⟩ := Kd.R_slice HO116.out
     (first | subst eo174 | (injection eo174 with f1_ f2_ f3_; have f4_ := f1_.symm; have f5_ := f3_.symm; clear f1_ f2_ f3_; subst f4_; subst f5_))
     refine hK.out _ _ ⟨(blk_cell BK101.out 0).trans rfl, (blk_cell BK101.out 1).trans rfl⟩ (fun hHeld => ?_)
     clear hK K
     refine norm_ (a' := ?_) ?_ ?_
     rotate_left
     ·
      show Act.put _ (some 47) _ = _
      simp only [Act.put, List.setIfInBounds_toArray, List.set_cons_zero, List.set_cons_succ, i64_w, i32_w]
      rfl
     refine one_ (i := 5) (N := some 48) #[true, true, true, true, true, true, false, false, false, false, false, false] rfl rfl (one_of HT_.out (by kernel_rfl)) (by decide) (fun K hK => ?_)
     refine goes_ Tryz.func26 (by kernel_rfl) rfl #[.slice Ao174 y114.length co174] (by rfl) rfl rfl (qzz4_) ?_
     with_reducible refine (grommetlaw16_theirs.calls kj3 _ _ y114 t117 _ ?side1 ?side2 (hG.below (qzz1_)) A32.out).mono ?_
     (case side1 => repeat (first | exact (Kd.R_reads' HO116.out).2.2 | (with_reducible refine Kd.C_alloc ?_ _) | (with_reducible refine Kd.C_drewN ?_ _) | (with_reducible refine Kd.C_drew ?_)))
     (case side2 => exact (Kd.R_reads' HO116.out).2.1)
     rintro e w175 ⟨v118, rfl, ho0, hb⟩
     refine ⟨_, rfl, ?_⟩
     have n0_ := Aside0.mk (Kd.R_elder' (qzz3_) (Kd.R_base ho0) hb)
     have n1_ := Aside0.mk (Kd.R_below (qzz6_) hb)
     have n2_ := Aside0.mk (Kd.R_lower (Kd.R_new' ho0 (Kd.R_lt (qzz3_))) (below_size (qzz0_)))
     have n3_ := Aside0.mk (blk_below (g := gb101) (o := .cells #[.slice A0_0 l0_0.length c0_0, .int .i64 a0_1] 24 (0, 0)) (qzz2_) hb)
     have n4_ := Aside0.mk (below_step (qzz0_) hb)
     clear HO108
     clear HO116
     clear BK101
     clear HB
     have HO108 := n0_
     have HO116 := n1_
     have HO119 := n2_
     have BK101 := n3_
     have HB := n4_
     clear n0_ n1_ n2_ n3_ n4_
     (try clear hb)
     (try clear hb2)
     (try clear hk)
     (try clear hi)
     (try clear ho0)
     obtain ⟨Ao176, co176, eo176⟩ := Kd.R_slice HO119.out
     (first | subst eo176 | (injection eo176 with f1_ f2_ f3_; have f4_ := f1_.symm; have f5_ := f3_.symm; clear f1_ f2_ f3_; subst f4_; subst f5_))
     refine hK.out _ _ ⟨(blk_cell BK101.out 0).trans rfl, (blk_cell BK101.out 1).trans rfl⟩ (fun hHeld => ?_)
     clear hK K
     refine norm_ (a' := ?_) ?_ ?_
     rotate_left
     ·
      show Act.put _ (some 48) _ = _
      simp only [Act.put, List.setIfInBounds_toArray, List.set_cons_zero, List.set_cons_succ, i64_w, i32_w]
      rfl
     refine one_ (i := 6) (N := some 49) #[true, true, true, true, true, true, true, false, false, false, false, false] rfl rfl (one_of HT_.out (by kernel_rfl)) (by decide) (fun K hK => ?_)
     refine goes_ Tryz.func25 (by kernel_rfl) rfl #[.agg #[.slice A0_0 l0_0.length c0_0, .int .i64 a0_1], .slice Ao176 t117.length co176] (by rfl) rfl rfl (qzz4_) ?_
     with_reducible refine (path_Get.calls kj3 _ _ l0_0 a0_1 _ _ t117 t120 t121 _ ?side1 ?side2 ?side3 ?side4 (hG.below (qzz1_)) A33.out).mono ?_
     (case side1 => repeat (first | exact (Kd.C_below HR0_0.out HB.out) | (with_reducible refine Kd.C_alloc ?_ _) | (with_reducible refine Kd.C_drewN ?_ _) | (with_reducible refine Kd.C_drew ?_)))
     (case side2 => exact HC0_0.out)
     (case side3 => repeat (first | exact (Kd.R_reads' HO119.out).2.2 | (with_reducible refine Kd.C_alloc ?_ _) | (with_reducible refine Kd.C_drewN ?_ _) | (with_reducible refine Kd.C_drew ?_)))
     (case side4 => exact (Kd.R_reads' HO119.out).2.1)
     rintro e w177 ⟨rfl, hb⟩
     refine ⟨_, rfl, ?_⟩
     have n0_ := Aside0.mk (Kd.R_below (qzz3_) hb)
     have n1_ := Aside0.mk (Kd.R_below (qzz6_) hb)
     have n2_ := Aside0.mk (Kd.R_below (qzz5_) hb)
     have n3_ := Aside0.mk (blk_below (g := gb101) (o := .cells #[.slice A0_0 l0_0.length c0_0, .int .i64 a0_1] 24 (0, 0)) (qzz2_) hb)
     have n4_ := Aside0.mk (below_step (qzz0_) hb)
     clear HO108
     clear HO116
     clear HO119
     clear BK101
     clear HB
     have HO108 := n0_
     have HO116 := n1_
     have HO119 := n2_
     have BK101 := n3_
     have HB := n4_
     clear n0_ n1_ n2_ n3_ n4_
     (try clear hb)
     (try clear hb2)
     (try clear hk)
     (try clear hi)
     refine hK.out _ _ ⟨(blk_cell BK101.out 0).trans rfl, (blk_cell BK101.out 1).trans rfl⟩ (fun hHeld => ?_)
     clear hK K
     refine norm_ (a' := ?_) ?_ ?_
     rotate_left
     ·
      show Act.put _ (some 49) _ = _
      simp only [Act.put, List.setIfInBounds_toArray, List.set_cons_zero, List.set_cons_succ, i64_w, i32_w]
      rfl
     refine pure_ (i := 7) (N := some 42) (v := ?_) (a' := ?_) #[true, true, true, true, true, true, true, true, false, false, false, false] rfl rfl (any_of HT_.out (by kernel_rfl)) (fun _ _ _ h => h) (Or.inl ⟨by rfl, ?_⟩) ?_ ?_
     rotate_left
     exact qzz21_
     rotate_left
     exact qzz22_
     refine pure_ (i := 8) (N := some 50) (v := ?_) (a' := ?_) #[true, true, true, true, true, true, true, true, true, false, false, false] rfl rfl (any_of HT_.out (by kernel_rfl)) (fun _ _ _ h => h) (Or.inl ⟨by rfl, ?_⟩) ?_ ?_
     rotate_left
     exact qzz21_
     rotate_left
     exact qzz22_
     refine pure_ (i := 9) (N := some 51) (v := ?_) (a' := ?_) #[true, true, true, true, true, true, true, true, true, true, false, false] rfl rfl (any_of HT_.out (by kernel_rfl)) (fun _ _ _ h => h) (Or.inl ⟨by rfl, ?_⟩) ?_ ?_
     rotate_left
     exact qzz21_
     rotate_left
     exact qzz22_
     refine pure_ (i := 10) (N := some 9) (v := ?_) (a' := ?_) #[true, true, true, true, true, true, true, true, true, true, true, false] rfl rfl (any_of HT_.out (by kernel_rfl)) (fun _ _ _ h => h) (Or.inl ⟨by rfl, ?_⟩) ?_ ?_
     rotate_left
     exact qzz21_
     rotate_left
     exact qzz22_
     refine pure_ (i := 11) (N := some 10) (v := ?_) (a' := ?_) #[true, true, true, true, true, true, true, true, true, true, true, true] rfl rfl (any_of HT_.out (by kernel_rfl)) (fun _ _ _ h => h) (Or.inl ⟨by rfl, ?_⟩) ?_ ?_
     rotate_left
     exact qzz21_
     rotate_left
     exact qzz22_
     refine done_ (done_of HT_.out (by kernel_rfl)) ?_
     try go_wp2_with (first | ((with_reducible refine gate_callee (f := 26) rfl ?_); refine goesL_ (some 54) rfl rfl Tryz.func26 (by kernel_rfl) rfl #[.slice A2 l2.length c2] rfl (qzz4_) ?_; (with_reducible refine (grommetlaw16_theirs.calls kj3 _ _ l2 t122 _ ?side1 ?side2 (hG.below (qzz1_)) A34.out).mono ?_); (case side1 => repeat (first | exact (Kd.C_below HR2.out HB.out) | (with_reducible refine Kd.C_alloc ?_ _) | (with_reducible refine Kd.C_drewN ?_ _) | (with_reducible refine Kd.C_drew ?_))); (case side2 => exact HC2.out); rintro e w178 ⟨v123, rfl, ho0, hb⟩; refine ⟨_, rfl, ?_⟩; have n0_ := Aside0.mk (Kd.R_elder' (qzz3_) (Kd.R_base ho0) hb); have n1_ := Aside0.mk (Kd.R_below (qzz6_) hb); have n2_ := Aside0.mk (Kd.R_elder' (qzz5_) (Kd.R_base ho0) hb); have n3_ := Aside0.mk (Kd.R_lower (Kd.R_new' (Kd.R_new' ho0 (Kd.R_lt (qzz3_))) (Kd.R_lt (qzz5_))) (below_size (qzz0_))); have n4_ := Aside0.mk (blk_below (g := gb101) (o := .cells #[.slice A0_0 l0_0.length c0_0, .int .i64 a0_1] 24 (0, 0)) (qzz2_) hb); have n5_ := Aside0.mk (below_step (qzz0_) hb); clear HO108; clear HO116; clear HO119; clear BK101; clear HB; have HO108 := n0_; have HO116 := n1_; have HO119 := n2_; have HO124 := n3_; have BK101 := n4_; have HB := n5_; clear n0_ n1_ n2_ n3_ n4_ n5_; (try clear hb); (try clear hk); (try clear ho0); obtain ⟨Ao179, co179, eo179⟩ := Kd.R_slice HO124.out; subst eo179) | ((with_reducible refine gate_callee (f := 28) rfl ?_); refine goesL_ (some 55) rfl rfl Tryz.func28 (by kernel_rfl) rfl #[.slice Ao179 t122.length co179] rfl (qzz4_) ?_; (with_reducible refine (path_Format.calls _ _ t122 t125 t126 _ ?side1 ?side2 (hG.below (qzz1_)) A35.out).mono ?_); (case side1 => repeat (first | exact (Kd.R_reads' HO124.out).2.2 | (with_reducible refine Kd.C_alloc ?_ _) | (with_reducible refine Kd.C_drewN ?_ _) | (with_reducible refine Kd.C_drew ?_))); (case side2 => exact (Kd.R_reads' HO124.out).2.1); rintro e w180 ⟨rfl, hb⟩; refine ⟨_, rfl, ?_⟩; have n0_ := Aside0.mk (Kd.R_below (qzz3_) hb); have n1_ := Aside0.mk (Kd.R_below (qzz6_) hb); have n2_ := Aside0.mk (Kd.R_below (qzz5_) hb); have n3_ := Aside0.mk (Kd.R_below (qzz8_) hb); have n4_ := Aside0.mk (blk_below (g := gb101) (o := .cells #[.slice A0_0 l0_0.length c0_0, .int .i64 a0_1] 24 (0, 0)) (qzz2_) hb); have n5_ := Aside0.mk (below_step (qzz0_) hb); clear HO108; clear HO116; clear HO119; clear HO124; clear BK101; clear HB; have HO108 := n0_; have HO116 := n1_; have HO119 := n2_; have HO124 := n3_; have BK101 := n4_; have HB := n5_; clear n0_ n1_ n2_ n3_ n4_ n5_; (try clear hb); (try clear hk)))
     go_ret
     exact ⟨qzz16_, qzz0_⟩
    rw [if_pos c135] at H
    have c135b0 : (t109 == 0) = true := beq_iff_eq.mpr c135
    have c135b1 : (t109 != 0) = false := bne_eq_false_iff_eq.mpr c135
    clear c135
    by_cases c136 : t120 = 0
    rotate_left
    ·
     rw [if_neg c136] at H
     have c136b0 : (t120 == 0) = false := beq_eq_false_iff_ne.mpr c136
     have c136b1 : (t120 != 0) = true := bne_iff_ne.mpr c136
     obtain rfl := Option.some.inj H
     try go_wp2
     have n0_ := Aside0.mk (blk_drew BK101.out)
     have n1_ := Aside0.mk (below_drew1 HB.out)
     clear BK101
     clear HB
     have BK101 := n0_
     have HB := n1_
     clear n0_ n1_
     refine start_ (n := 9) (S := fun w' => w'.cell? ⟨gb101, 0, none⟩ = some (.slice A0_0 l0_0.length c0_0) ∧ w'.cell? ⟨gb101, 1, none⟩ = some (.int .i64 a0_1)) (ds := []) #[false, false, false, false, false, false, false, false, false] (by kernel_rfl) rfl rfl ⟨(blk_cell BK101.out 0).trans rfl, (blk_cell BK101.out 1).trans rfl⟩ (fun hHeld => ?_); refine with_tabW grommetlaw16_PathOn.tab3 grommetlaw16_PathOn.bits3 (fun HT_ HW_ => ?_)
     generalize wc.drew = w153 at BK101 HB hHeld ⊢
     refine pure_ (i := 1) (N := some 37) (v := ?_) (a' := ?_) #[false, true, false, false, false, false, false, false, false] rfl rfl (any_of HT_.out (by kernel_rfl)) (fun _ _ _ h => h) (Or.inl ⟨by rfl, ?_⟩) ?_ ?_
     rotate_left
     exact qzz21_
     rotate_left
     exact qzz22_
     refine take_ (i := 0) (N := some 36) (v := ?_) (a' := ?_) #[true, true, false, false, false, false, false, false, false] rfl rfl (take_ofW HT_.out HW_.out (by kernel_rfl)) (fun _ _ _ h => h) (Or.inl ⟨by rfl, ?_⟩) hHeld ?_ ?_
     rotate_left
     exact qzz23_
     rotate_left
     exact qzz22_
     refine one_ (i := 2) (N := some 38) #[true, true, true, false, false, false, false, false, false] rfl rfl (one_of HT_.out (by kernel_rfl)) (by decide) (fun K hK => ?_)
     refine goes_ Tryz.func26 (by kernel_rfl) rfl #[.slice A1 l1.length c1] (by rfl) rfl rfl (qzz4_) ?_
     with_reducible refine (grommetlaw16_theirs.calls kj3 _ _ l1 t106 _ ?side1 ?side2 (hG.below (qzz1_)) A28.out).mono ?_
     (case side1 => repeat (first | exact (Kd.C_below HR1.out HB.out) | (with_reducible refine Kd.C_alloc ?_ _) | (with_reducible refine Kd.C_drewN ?_ _) | (with_reducible refine Kd.C_drew ?_)))
     (case side2 => exact HC1.out)
     rintro e w154 ⟨v107, rfl, ho0, hb⟩
     refine ⟨_, rfl, ?_⟩
     have n0_ := Aside0.mk (Kd.R_lower ho0 (below_size (qzz0_)))
     have n1_ := Aside0.mk (blk_below (g := gb101) (o := .cells #[.slice A0_0 l0_0.length c0_0, .int .i64 a0_1] 24 (0, 0)) (qzz2_) hb)
     have n2_ := Aside0.mk (below_step (qzz0_) hb)
     clear BK101
     clear HB
     have HO108 := n0_
     have BK101 := n1_
     have HB := n2_
     clear n0_ n1_ n2_
     (try clear hb)
     (try clear hb2)
     (try clear hk)
     (try clear hi)
     (try clear ho0)
     obtain ⟨Ao155, co155, eo155⟩ := Kd.R_slice HO108.out
     (first | subst eo155 | (injection eo155 with f1_ f2_ f3_; have f4_ := f1_.symm; have f5_ := f3_.symm; clear f1_ f2_ f3_; subst f4_; subst f5_))
     refine hK.out _ _ ⟨(blk_cell BK101.out 0).trans rfl, (blk_cell BK101.out 1).trans rfl⟩ (fun hHeld => ?_)
     clear hK K
     refine norm_ (a' := ?_) ?_ ?_
     rotate_left
     ·
      show Act.put _ (some 38) _ = _
      simp only [Act.put, List.setIfInBounds_toArray, List.set_cons_zero, List.set_cons_succ, i64_w, i32_w]
      rfl
     refine one_ (i := 3) (N := some 39) #[true, true, true, true, false, false, false, false, false] rfl rfl (one_of HT_.out (by kernel_rfl)) (by decide) (fun K hK => ?_)
     refine goes_ Tryz.func25 (by kernel_rfl) rfl #[.agg #[.slice A0_0 l0_0.length c0_0, .int .i64 a0_1], .slice Ao155 t106.length co155] (by rfl) rfl rfl (qzz4_) ?_
     with_reducible refine (path_Get.calls kj3 _ _ l0_0 a0_1 _ _ t106 t109 t110 _ ?side1 ?side2 ?side3 ?side4 (hG.below (qzz1_)) A29.out).mono ?_
     (case side1 => repeat (first | exact (Kd.C_below HR0_0.out HB.out) | (with_reducible refine Kd.C_alloc ?_ _) | (with_reducible refine Kd.C_drewN ?_ _) | (with_reducible refine Kd.C_drew ?_)))
     (case side2 => exact HC0_0.out)
     (case side3 => repeat (first | exact (Kd.R_reads' HO108.out).2.2 | (with_reducible refine Kd.C_alloc ?_ _) | (with_reducible refine Kd.C_drewN ?_ _) | (with_reducible refine Kd.C_drew ?_)))
     (case side4 => exact (Kd.R_reads' HO108.out).2.1)
     rintro e w156 ⟨rfl, hb⟩
     refine ⟨_, rfl, ?_⟩
     have n0_ := Aside0.mk (Kd.R_below (qzz3_) hb)
     have n1_ := Aside0.mk (blk_below (g := gb101) (o := .cells #[.slice A0_0 l0_0.length c0_0, .int .i64 a0_1] 24 (0, 0)) (qzz2_) hb)
     have n2_ := Aside0.mk (below_step (qzz0_) hb)
     clear HO108
     clear BK101
     clear HB
     have HO108 := n0_
     have BK101 := n1_
     have HB := n2_
     clear n0_ n1_ n2_
     (try clear hb)
     (try clear hb2)
     (try clear hk)
     (try clear hi)
     refine hK.out _ _ ⟨(blk_cell BK101.out 0).trans rfl, (blk_cell BK101.out 1).trans rfl⟩ (fun hHeld => ?_)
     clear hK K
     refine norm_ (a' := ?_) ?_ ?_
     rotate_left
     ·
      show Act.put _ (some 39) _ = _
      simp only [Act.put, List.setIfInBounds_toArray, List.set_cons_zero, List.set_cons_succ, i64_w, i32_w]
      rfl
     refine pure_ (i := 4) (N := some 35) (v := ?_) (a' := ?_) #[true, true, true, true, true, false, false, false, false] rfl rfl (any_of HT_.out (by kernel_rfl)) (fun _ _ _ h => h) (Or.inl ⟨by rfl, ?_⟩) ?_ ?_
     rotate_left
     exact qzz21_
     rotate_left
     exact qzz22_
     refine pure_ (i := 5) (N := some 40) (v := ?_) (a' := ?_) #[true, true, true, true, true, true, false, false, false] rfl rfl (any_of HT_.out (by kernel_rfl)) (fun _ _ _ h => h) (Or.inl ⟨by rfl, ?_⟩) ?_ ?_
     rotate_left
     exact qzz21_
     rotate_left
     exact qzz22_
     refine pure_ (i := 6) (N := some 41) (v := ?_) (a' := ?_) #[true, true, true, true, true, true, true, false, false] rfl rfl (any_of HT_.out (by kernel_rfl)) (fun _ _ _ h => h) (Or.inl ⟨by rfl, ?_⟩) ?_ ?_
     rotate_left
     exact qzz21_
     rotate_left
     exact qzz22_
     refine pure_ (i := 7) (N := some 7) (v := ?_) (a' := ?_) #[true, true, true, true, true, true, true, true, false] rfl rfl (any_of HT_.out (by kernel_rfl)) (fun _ _ _ h => h) (Or.inl ⟨by rfl, ?_⟩) ?_ ?_
     rotate_left
     exact qzz21_
     rotate_left
     exact qzz22_
     refine pure_ (i := 8) (N := some 8) (v := ?_) (a' := ?_) #[true, true, true, true, true, true, true, true, true] rfl rfl (any_of HT_.out (by kernel_rfl)) (fun _ _ _ h => h) (Or.inl ⟨by rfl, ?_⟩) ?_ ?_
     rotate_left
     exact qzz21_
     rotate_left
     exact qzz22_
     refine done_ (done_of HT_.out (by kernel_rfl)) ?_
     try go_wp2
     have n0_ := Aside0.mk (Kd.R_drew HO108.out)
     have n1_ := Aside0.mk (blk_drew BK101.out)
     have n2_ := Aside0.mk (below_drew1 HB.out)
     clear HO108
     clear BK101
     clear HB
     have HO108 := n0_
     have BK101 := n1_
     have HB := n2_
     clear n0_ n1_ n2_
     refine start_ (n := 12) (S := fun w' => w'.cell? ⟨gb101, 0, none⟩ = some (.slice A0_0 l0_0.length c0_0) ∧ w'.cell? ⟨gb101, 1, none⟩ = some (.int .i64 a0_1)) (ds := []) #[false, false, false, false, false, false, false, false, false, false, false, false] (by kernel_rfl) rfl rfl ⟨(blk_cell BK101.out 0).trans rfl, (blk_cell BK101.out 1).trans rfl⟩ (fun hHeld => ?_); refine with_tabW grommetlaw16_PathOn.tab4 grommetlaw16_PathOn.bits4 (fun HT_ HW_ => ?_)
     generalize w156.drew = w157 at HO108 BK101 HB hHeld ⊢
     refine pure_ (i := 1) (N := some 44) (v := ?_) (a' := ?_) #[false, true, false, false, false, false, false, false, false, false, false, false] rfl rfl (any_of HT_.out (by kernel_rfl)) (fun _ _ _ h => h) (Or.inl ⟨by rfl, ?_⟩) ?_ ?_
     rotate_left
     exact qzz21_
     rotate_left
     exact qzz22_
     refine pure_ (i := 3) (N := some 46) (v := ?_) (a' := ?_) #[false, true, false, true, false, false, false, false, false, false, false, false] rfl rfl (any_of HT_.out (by kernel_rfl)) (fun _ _ _ h => h) (Or.inl ⟨by rfl, ?_⟩) ?_ ?_
     rotate_left
     exact qzz21_
     rotate_left
     exact qzz22_
     refine take_ (i := 0) (N := some 43) (v := ?_) (a' := ?_) #[true, true, false, true, false, false, false, false, false, false, false, false] rfl rfl (take_ofW HT_.out HW_.out (by kernel_rfl)) (fun _ _ _ h => h) (Or.inl ⟨by rfl, ?_⟩) hHeld ?_ ?_
     rotate_left
     exact qzz23_
     rotate_left
     exact qzz22_
     refine one_ (i := 2) (N := some 45) #[true, true, true, true, false, false, false, false, false, false, false, false] rfl rfl (one_of HT_.out (by kernel_rfl)) (by decide) (fun K hK => ?_)
     refine Kd.R_append_rows_step k58 (w0 := w) w.heap.size (by rfl) (.const (.slice none 0 0)) (.tmp 44) 47 58 (.agg #[(.string ⟨#[]⟩), (.int .i64 0), (.bool false)]) 32 rfl Tryz.underlying47 info58 rfl (by decide) (by omega) (.slice none 0 0) ([] : List (S58)) l1 _ _ _ (fun _ => True) (fun _ => False) rfl rfl ?aO ?aR (fun _ _ h => h) (fun _ h => h.elim) ?aF ?aB ?aS ?aL ?_
     (case aR => repeat (first | exact (Kd.C_below HR1.out HB.out) | (with_reducible refine Kd.C_alloc ?_ _) | (with_reducible refine Kd.C_drewN ?_ _) | (with_reducible refine Kd.C_drew ?_)))
     (case aB => exact (qzz0_))
     (case aF => exact (fun _ _ => trivial))
     (case aO => exact ((Kd.R_nil _ _ _ _ (fun _ => True))))
     (case aS => exact (below_size (qzz0_)))
     (case aL => have := LMc30.out; omega)
     intro v112 w158 ho hb hg hat
     rw [← Ny111.out] at ho
     have n0_ := Aside0.mk (blk_grown (g := gb101) (o := .cells #[.slice A0_0 l0_0.length c0_0, .int .i64 a0_1] 24 (0, 0)) (qzz2_) hg (by simp [Value.ownBlock]))
     have n1_ := Aside0.mk (Kd.R_grown (qzz3_) hg (fun _ _ => by simp [Value.ownBlock]))
     have n2_ := Aside0.mk (hb)
     have n3_ := Aside0.mk (ho)
     clear BK101
     clear HO108
     clear HB
     have BK101 := n0_
     have HO108 := n1_
     have HB := n2_
     have HO113 := n3_
     clear n0_ n1_ n2_ n3_
     clear ho hb hg hat
     refine hK.out _ _ ⟨(blk_cell BK101.out 0).trans rfl, (blk_cell BK101.out 1).trans rfl⟩ (fun hHeld => ?_)
     clear hK K
     refine norm_ (a' := ?_) ?_ ?_
     rotate_left
     ·
      show Act.put _ (some 45) _ = _
      simp only [Act.put, List.setIfInBounds_toArray, List.set_cons_zero, List.set_cons_succ, i64_w, i32_w]
      rfl
     refine one_ (i := 4) (N := some 47) #[true, true, true, true, true, false, false, false, false, false, false, false] rfl rfl (one_of HT_.out (by kernel_rfl)) (by decide) (fun K hK => ?_)
     refine Kd.R_append_rows_step k58 (w0 := w) w.heap.size (by rfl) (.tmp 45) (.tmp 46) 47 58 (.agg #[(.string ⟨#[]⟩), (.int .i64 0), (.bool false)]) 32 rfl Tryz.underlying47 info58 rfl (by decide) (by omega) v112 y111 l2 _ _ _ (fun _ => True) (fun _ => False) rfl rfl ?aO ?aR (fun _ _ h => h) (fun _ h => h.elim) ?aF ?aB ?aS ?aL ?_
     (case aR => repeat (first | exact (Kd.C_below HR2.out HB.out) | (with_reducible refine Kd.C_alloc ?_ _) | (with_reducible refine Kd.C_drewN ?_ _) | (with_reducible refine Kd.C_drew ?_)))
     (case aB => exact (qzz0_))
     (case aF => exact (fun _ _ => trivial))
     (case aO => exact (qzz10_))
     (case aS => exact (below_size (qzz0_)))
     (case aL => have := LMc31.out; omega)
     intro v115 w159 ho hb hg hat
     rw [← Ny114.out] at ho
     have n0_ := Aside0.mk (blk_grown (g := gb101) (o := .cells #[.slice A0_0 l0_0.length c0_0, .int .i64 a0_1] 24 (0, 0)) (qzz2_) hg (Kd.R_ne HO113.out BK101.out (by decide)))
     have n1_ := Aside0.mk (Kd.R_over' (qzz3_) (Kd.R_typed (qzz10_)) (by decide) hg)
     have n2_ := Aside0.mk (hb)
     have n3_ := Aside0.mk (ho)
     clear BK101
     clear HO108
     clear HB
     clear HO113
     have BK101 := n0_
     have HO108 := n1_
     have HB := n2_
     have HO116 := n3_
     clear n0_ n1_ n2_ n3_
     clear ho hb hg hat
     obtain ⟨Ao160, co160, eo160⟩ := Kd.R_slice HO116.out
     (first | subst eo160 | (injection eo160 with f1_ f2_ f3_; have f4_ := f1_.symm; have f5_ := f3_.symm; clear f1_ f2_ f3_; subst f4_; subst f5_))
     refine hK.out _ _ ⟨(blk_cell BK101.out 0).trans rfl, (blk_cell BK101.out 1).trans rfl⟩ (fun hHeld => ?_)
     clear hK K
     refine norm_ (a' := ?_) ?_ ?_
     rotate_left
     ·
      show Act.put _ (some 47) _ = _
      simp only [Act.put, List.setIfInBounds_toArray, List.set_cons_zero, List.set_cons_succ, i64_w, i32_w]
      rfl
     refine one_ (i := 5) (N := some 48) #[true, true, true, true, true, true, false, false, false, false, false, false] rfl rfl (one_of HT_.out (by kernel_rfl)) (by decide) (fun K hK => ?_)
     refine goes_ Tryz.func26 (by kernel_rfl) rfl #[.slice Ao160 y114.length co160] (by rfl) rfl rfl (qzz4_) ?_
     with_reducible refine (grommetlaw16_theirs.calls kj3 _ _ y114 t117 _ ?side1 ?side2 (hG.below (qzz1_)) A32.out).mono ?_
     (case side1 => repeat (first | exact (Kd.R_reads' HO116.out).2.2 | (with_reducible refine Kd.C_alloc ?_ _) | (with_reducible refine Kd.C_drewN ?_ _) | (with_reducible refine Kd.C_drew ?_)))
     (case side2 => exact (Kd.R_reads' HO116.out).2.1)
     rintro e w161 ⟨v118, rfl, ho0, hb⟩
     refine ⟨_, rfl, ?_⟩
     have n0_ := Aside0.mk (Kd.R_elder' (qzz3_) (Kd.R_base ho0) hb)
     have n1_ := Aside0.mk (Kd.R_below (qzz6_) hb)
     have n2_ := Aside0.mk (Kd.R_lower (Kd.R_new' ho0 (Kd.R_lt (qzz3_))) (below_size (qzz0_)))
     have n3_ := Aside0.mk (blk_below (g := gb101) (o := .cells #[.slice A0_0 l0_0.length c0_0, .int .i64 a0_1] 24 (0, 0)) (qzz2_) hb)
     have n4_ := Aside0.mk (below_step (qzz0_) hb)
     clear HO108
     clear HO116
     clear BK101
     clear HB
     have HO108 := n0_
     have HO116 := n1_
     have HO119 := n2_
     have BK101 := n3_
     have HB := n4_
     clear n0_ n1_ n2_ n3_ n4_
     (try clear hb)
     (try clear hb2)
     (try clear hk)
     (try clear hi)
     (try clear ho0)
     obtain ⟨Ao162, co162, eo162⟩ := Kd.R_slice HO119.out
     (first | subst eo162 | (injection eo162 with f1_ f2_ f3_; have f4_ := f1_.symm; have f5_ := f3_.symm; clear f1_ f2_ f3_; subst f4_; subst f5_))
     refine hK.out _ _ ⟨(blk_cell BK101.out 0).trans rfl, (blk_cell BK101.out 1).trans rfl⟩ (fun hHeld => ?_)
     clear hK K
     refine norm_ (a' := ?_) ?_ ?_
     rotate_left
     ·
      show Act.put _ (some 48) _ = _
      simp only [Act.put, List.setIfInBounds_toArray, List.set_cons_zero, List.set_cons_succ, i64_w, i32_w]
      rfl
     refine one_ (i := 6) (N := some 49) #[true, true, true, true, true, true, true, false, false, false, false, false] rfl rfl (one_of HT_.out (by kernel_rfl)) (by decide) (fun K hK => ?_)
     refine goes_ Tryz.func25 (by kernel_rfl) rfl #[.agg #[.slice A0_0 l0_0.length c0_0, .int .i64 a0_1], .slice Ao162 t117.length co162] (by rfl) rfl rfl (qzz4_) ?_
     with_reducible refine (path_Get.calls kj3 _ _ l0_0 a0_1 _ _ t117 t120 t121 _ ?side1 ?side2 ?side3 ?side4 (hG.below (qzz1_)) A33.out).mono ?_
     (case side1 => repeat (first | exact (Kd.C_below HR0_0.out HB.out) | (with_reducible refine Kd.C_alloc ?_ _) | (with_reducible refine Kd.C_drewN ?_ _) | (with_reducible refine Kd.C_drew ?_)))
     (case side2 => exact HC0_0.out)
     (case side3 => repeat (first | exact (Kd.R_reads' HO119.out).2.2 | (with_reducible refine Kd.C_alloc ?_ _) | (with_reducible refine Kd.C_drewN ?_ _) | (with_reducible refine Kd.C_drew ?_)))
     (case side4 => exact (Kd.R_reads' HO119.out).2.1)
     rintro e w163 ⟨rfl, hb⟩
     refine ⟨_, rfl, ?_⟩
     have n0_ := Aside0.mk (Kd.R_below (qzz3_) hb)
     have n1_ := Aside0.mk (Kd.R_below (qzz6_) hb)
     have n2_ := Aside0.mk (Kd.R_below (qzz5_) hb)
     have n3_ := Aside0.mk (blk_below (g := gb101) (o := .cells #[.slice A0_0 l0_0.length c0_0, .int .i64 a0_1] 24 (0, 0)) (qzz2_) hb)
     have n4_ := Aside0.mk (below_step (qzz0_) hb)
     clear HO108
     clear HO116
     clear HO119
     clear BK101
     clear HB
     have HO108 := n0_
     have HO116 := n1_
     have HO119 := n2_
     have BK101 := n3_
     have HB := n4_
     clear n0_ n1_ n2_ n3_ n4_
     (try clear hb)
     (try clear hb2)
     (try clear hk)
     (try clear hi)
     refine hK.out _ _ ⟨(blk_cell BK101.out 0).trans rfl, (blk_cell BK101.out 1).trans rfl⟩ (fun hHeld => ?_)
     clear hK K
     refine norm_ (a' := ?_) ?_ ?_
     rotate_left
     ·
      show Act.put _ (some 49) _ = _
      simp only [Act.put, List.setIfInBounds_toArray, List.set_cons_zero, List.set_cons_succ, i64_w, i32_w]
      rfl
     refine pure_ (i := 7) (N := some 42) (v := ?_) (a' := ?_) #[true, true, true, true, true, true, true, true, false, false, false, false] rfl rfl (any_of HT_.out (by kernel_rfl)) (fun _ _ _ h => h) (Or.inl ⟨by rfl, ?_⟩) ?_ ?_
     rotate_left
     exact qzz21_
     rotate_left
     exact qzz22_
     refine pure_ (i := 8) (N := some 50) (v := ?_) (a' := ?_) #[true, true, true, true, true, true, true, true, true, false, false, false] rfl rfl (any_of HT_.out (by kernel_rfl)) (fun _ _ _ h => h) (Or.inl ⟨by rfl, ?_⟩) ?_ ?_
     rotate_left
     exact qzz21_
     rotate_left
     exact qzz22_
     refine pure_ (i := 9) (N := some 51) (v := ?_) (a' := ?_) #[true, true, true, true, true, true, true, true, true, true, false, false] rfl rfl (any_of HT_.out (by kernel_rfl)) (fun _ _ _ h => h) (Or.inl ⟨by rfl, ?_⟩) ?_ ?_
     rotate_left
     exact qzz21_
     rotate_left
     exact qzz22_
     refine pure_ (i := 10) (N := some 9) (v := ?_) (a' := ?_) #[true, true, true, true, true, true, true, true, true, true, true, false] rfl rfl (any_of HT_.out (by kernel_rfl)) (fun _ _ _ h => h) (Or.inl ⟨by rfl, ?_⟩) ?_ ?_
     rotate_left
     exact qzz21_
     rotate_left
     exact qzz22_
     refine pure_ (i := 11) (N := some 10) (v := ?_) (a' := ?_) #[true, true, true, true, true, true, true, true, true, true, true, true] rfl rfl (any_of HT_.out (by kernel_rfl)) (fun _ _ _ h => h) (Or.inl ⟨by rfl, ?_⟩) ?_ ?_
     rotate_left
     exact qzz21_
     rotate_left
     exact qzz22_
     refine done_ (done_of HT_.out (by kernel_rfl)) ?_
     try go_wp2_with (first | ((with_reducible refine gate_callee (f := 26) rfl ?_); refine goesL_ (some 54) rfl rfl Tryz.func26 (by kernel_rfl) rfl #[.slice A2 l2.length c2] rfl (qzz4_) ?_; (with_reducible refine (grommetlaw16_theirs.calls kj3 _ _ l2 t122 _ ?side1 ?side2 (hG.below (qzz1_)) A34.out).mono ?_); (case side1 => repeat (first | exact (Kd.C_below HR2.out HB.out) | (with_reducible refine Kd.C_alloc ?_ _) | (with_reducible refine Kd.C_drewN ?_ _) | (with_reducible refine Kd.C_drew ?_))); (case side2 => exact HC2.out); rintro e w164 ⟨v123, rfl, ho0, hb⟩; refine ⟨_, rfl, ?_⟩; have n0_ := Aside0.mk (Kd.R_elder' (qzz3_) (Kd.R_base ho0) hb); have n1_ := Aside0.mk (Kd.R_below (qzz6_) hb); have n2_ := Aside0.mk (Kd.R_elder' (qzz5_) (Kd.R_base ho0) hb); have n3_ := Aside0.mk (Kd.R_lower (Kd.R_new' (Kd.R_new' ho0 (Kd.R_lt (qzz3_))) (Kd.R_lt (qzz5_))) (below_size (qzz0_))); have n4_ := Aside0.mk (blk_below (g := gb101) (o := .cells #[.slice A0_0 l0_0.length c0_0, .int .i64 a0_1] 24 (0, 0)) (qzz2_) hb); have n5_ := Aside0.mk (below_step (qzz0_) hb); clear HO108; clear HO116; clear HO119; clear BK101; clear HB; have HO108 := n0_; have HO116 := n1_; have HO119 := n2_; have HO124 := n3_; have BK101 := n4_; have HB := n5_; clear n0_ n1_ n2_ n3_ n4_ n5_; (try clear hb); (try clear hk); (try clear ho0); obtain ⟨Ao165, co165, eo165⟩ := Kd.R_slice HO124.out; subst eo165) | ((with_reducible refine gate_callee (f := 28) rfl ?_); refine goesL_ (some 55) rfl rfl Tryz.func28 (by kernel_rfl) rfl #[.slice Ao165 t122.length co165] rfl (qzz4_) ?_; (with_reducible refine (path_Format.calls _ _ t122 t125 t126 _ ?side1 ?side2 (hG.below (qzz1_)) A35.out).mono ?_); (case side1 => repeat (first | exact (Kd.R_reads' HO124.out).2.2 | (with_reducible refine Kd.C_alloc ?_ _) | (with_reducible refine Kd.C_drewN ?_ _) | (with_reducible refine Kd.C_drew ?_))); (case side2 => exact (Kd.R_reads' HO124.out).2.1); rintro e w166 ⟨rfl, hb⟩; refine ⟨_, rfl, ?_⟩; have n0_ := Aside0.mk (Kd.R_below (qzz3_) hb); have n1_ := Aside0.mk (Kd.R_below (qzz6_) hb); have n2_ := Aside0.mk (Kd.R_below (qzz5_) hb); have n3_ := Aside0.mk (Kd.R_below (qzz8_) hb); have n4_ := Aside0.mk (blk_below (g := gb101) (o := .cells #[.slice A0_0 l0_0.length c0_0, .int .i64 a0_1] 24 (0, 0)) (qzz2_) hb); have n5_ := Aside0.mk (below_step (qzz0_) hb); clear HO108; clear HO116; clear HO119; clear HO124; clear BK101; clear HB; have HO108 := n0_; have HO116 := n1_; have HO119 := n2_; have HO124 := n3_; have BK101 := n4_; have HB := n5_; clear n0_ n1_ n2_ n3_ n4_ n5_; (try clear hb); (try clear hk)))
     go_ret
     exact ⟨qzz16_, qzz0_⟩
    rw [if_pos c136] at H
    have c136b0 : (t120 == 0) = true := beq_iff_eq.mpr c136
    have c136b1 : (t120 != 0) = false := bne_eq_false_iff_eq.mpr c136
    clear c136
    replace H := Option.bind_eq_some_iff.mp H
    obtain ⟨t128, A1370, H⟩ := H
    replace H : (some t128) = some r := H
    have A137 := Aside0.mk A1370
    clear A1370
    obtain rfl := Option.some.inj H
    try go_wp2
    have n0_ := Aside0.mk (blk_drew BK101.out)
    have n1_ := Aside0.mk (below_drew1 HB.out)
    clear BK101
    clear HB
    have BK101 := n0_
    have HB := n1_
    clear n0_ n1_
    refine start_ (n := 9) (S := fun w' => w'.cell? ⟨gb101, 0, none⟩ = some (.slice A0_0 l0_0.length c0_0) ∧ w'.cell? ⟨gb101, 1, none⟩ = some (.int .i64 a0_1)) (ds := []) #[false, false, false, false, false, false, false, false, false] (by kernel_rfl) rfl rfl ⟨(blk_cell BK101.out 0).trans rfl, (blk_cell BK101.out 1).trans rfl⟩ (fun hHeld => ?_); refine with_tabW grommetlaw16_PathOn.tab3 grommetlaw16_PathOn.bits3 (fun HT_ HW_ => ?_)
    generalize wc.drew = w138 at BK101 HB hHeld ⊢
    refine pure_ (i := 1) (N := some 37) (v := ?_) (a' := ?_) #[false, true, false, false, false, false, false, false, false] rfl rfl (any_of HT_.out (by kernel_rfl)) (fun _ _ _ h => h) (Or.inl ⟨by rfl, ?_⟩) ?_ ?_
    rotate_left
    exact qzz21_
    rotate_left
    exact qzz22_
    refine take_ (i := 0) (N := some 36) (v := ?_) (a' := ?_) #[true, true, false, false, false, false, false, false, false] rfl rfl (take_ofW HT_.out HW_.out (by kernel_rfl)) (fun _ _ _ h => h) (Or.inl ⟨by rfl, ?_⟩) hHeld ?_ ?_
    rotate_left
    exact qzz23_
    rotate_left
    exact qzz22_
    refine one_ (i := 2) (N := some 38) #[true, true, true, false, false, false, false, false, false] rfl rfl (one_of HT_.out (by kernel_rfl)) (by decide) (fun K hK => ?_)
    refine goes_ Tryz.func26 (by kernel_rfl) rfl #[.slice A1 l1.length c1] (by rfl) rfl rfl (qzz4_) ?_
    with_reducible refine (grommetlaw16_theirs.calls kj3 _ _ l1 t106 _ ?side1 ?side2 (hG.below (qzz1_)) A28.out).mono ?_
    (case side1 => repeat (first | exact (Kd.C_below HR1.out HB.out) | (with_reducible refine Kd.C_alloc ?_ _) | (with_reducible refine Kd.C_drewN ?_ _) | (with_reducible refine Kd.C_drew ?_)))
    (case side2 => exact HC1.out)
    rintro e w139 ⟨v107, rfl, ho0, hb⟩
    refine ⟨_, rfl, ?_⟩
    have n0_ := Aside0.mk (Kd.R_lower ho0 (below_size (qzz0_)))
    have n1_ := Aside0.mk (blk_below (g := gb101) (o := .cells #[.slice A0_0 l0_0.length c0_0, .int .i64 a0_1] 24 (0, 0)) (qzz2_) hb)
    have n2_ := Aside0.mk (below_step (qzz0_) hb)
    clear BK101
    clear HB
    have HO108 := n0_
    have BK101 := n1_
    have HB := n2_
    clear n0_ n1_ n2_
    (try clear hb)
    (try clear hb2)
    (try clear hk)
    (try clear hi)
    (try clear ho0)
    obtain ⟨Ao140, co140, eo140⟩ := Kd.R_slice HO108.out
    (first | subst eo140 | (injection eo140 with f1_ f2_ f3_; have f4_ := f1_.symm; have f5_ := f3_.symm; clear f1_ f2_ f3_; subst f4_; subst f5_))
    refine hK.out _ _ ⟨(blk_cell BK101.out 0).trans rfl, (blk_cell BK101.out 1).trans rfl⟩ (fun hHeld => ?_)
    clear hK K
    refine norm_ (a' := ?_) ?_ ?_
    rotate_left
    ·
     show Act.put _ (some 38) _ = _
     simp only [Act.put, List.setIfInBounds_toArray, List.set_cons_zero, List.set_cons_succ, i64_w, i32_w]
     rfl
    refine one_ (i := 3) (N := some 39) #[true, true, true, true, false, false, false, false, false] rfl rfl (one_of HT_.out (by kernel_rfl)) (by decide) (fun K hK => ?_)
    refine goes_ Tryz.func25 (by kernel_rfl) rfl #[.agg #[.slice A0_0 l0_0.length c0_0, .int .i64 a0_1], .slice Ao140 t106.length co140] (by rfl) rfl rfl (qzz4_) ?_
    with_reducible refine (path_Get.calls kj3 _ _ l0_0 a0_1 _ _ t106 t109 t110 _ ?side1 ?side2 ?side3 ?side4 (hG.below (qzz1_)) A29.out).mono ?_
    (case side1 => repeat (first | exact (Kd.C_below HR0_0.out HB.out) | (with_reducible refine Kd.C_alloc ?_ _) | (with_reducible refine Kd.C_drewN ?_ _) | (with_reducible refine Kd.C_drew ?_)))
    (case side2 => exact HC0_0.out)
    (case side3 => repeat (first | exact (Kd.R_reads' HO108.out).2.2 | (with_reducible refine Kd.C_alloc ?_ _) | (with_reducible refine Kd.C_drewN ?_ _) | (with_reducible refine Kd.C_drew ?_)))
    (case side4 => exact (Kd.R_reads' HO108.out).2.1)
    rintro e w141 ⟨rfl, hb⟩
    refine ⟨_, rfl, ?_⟩
    have n0_ := Aside0.mk (Kd.R_below (qzz3_) hb)
    have n1_ := Aside0.mk (blk_below (g := gb101) (o := .cells #[.slice A0_0 l0_0.length c0_0, .int .i64 a0_1] 24 (0, 0)) (qzz2_) hb)
    have n2_ := Aside0.mk (below_step (qzz0_) hb)
    clear HO108
    clear BK101
    clear HB
    have HO108 := n0_
    have BK101 := n1_
    have HB := n2_
    clear n0_ n1_ n2_
    (try clear hb)
    (try clear hb2)
    (try clear hk)
    (try clear hi)
    refine hK.out _ _ ⟨(blk_cell BK101.out 0).trans rfl, (blk_cell BK101.out 1).trans rfl⟩ (fun hHeld => ?_)
    clear hK K
    refine norm_ (a' := ?_) ?_ ?_
    rotate_left
    ·
     show Act.put _ (some 39) _ = _
     simp only [Act.put, List.setIfInBounds_toArray, List.set_cons_zero, List.set_cons_succ, i64_w, i32_w]
     rfl
    refine pure_ (i := 4) (N := some 35) (v := ?_) (a' := ?_) #[true, true, true, true, true, false, false, false, false] rfl rfl (any_of HT_.out (by kernel_rfl)) (fun _ _ _ h => h) (Or.inl ⟨by rfl, ?_⟩) ?_ ?_
    rotate_left
    exact qzz21_
    rotate_left
    exact qzz22_
    refine pure_ (i := 5) (N := some 40) (v := ?_) (a' := ?_) #[true, true, true, true, true, true, false, false, false] rfl rfl (any_of HT_.out (by kernel_rfl)) (fun _ _ _ h => h) (Or.inl ⟨by rfl, ?_⟩) ?_ ?_
    rotate_left
    exact qzz21_
    rotate_left
    exact qzz22_
    refine pure_ (i := 6) (N := some 41) (v := ?_) (a' := ?_) #[true, true, true, true, true, true, true, false, false] rfl rfl (any_of HT_.out (by kernel_rfl)) (fun _ _ _ h => h) (Or.inl ⟨by rfl, ?_⟩) ?_ ?_
    rotate_left
    exact qzz21_
    rotate_left
    exact qzz22_
    refine pure_ (i := 7) (N := some 7) (v := ?_) (a' := ?_) #[true, true, true, true, true, true, true, true, false] rfl rfl (any_of HT_.out (by kernel_rfl)) (fun _ _ _ h => h) (Or.inl ⟨by rfl, ?_⟩) ?_ ?_
    rotate_left
    exact qzz21_
    rotate_left
    exact qzz22_
    refine pure_ (i := 8) (N := some 8) (v := ?_) (a' := ?_) #[true, true, true, true, true, true, true, true, true] rfl rfl (any_of HT_.out (by kernel_rfl)) (fun _ _ _ h => h) (Or.inl ⟨by rfl, ?_⟩) ?_ ?_
    rotate_left
    exact qzz21_
    rotate_left
    exact qzz22_
    refine done_ (done_of HT_.out (by kernel_rfl)) ?_
    try go_wp2
    have n0_ := Aside0.mk (Kd.R_drew HO108.out)
    have n1_ := Aside0.mk (blk_drew BK101.out)
    have n2_ := Aside0.mk (below_drew1 HB.out)
    clear HO108
    clear BK101
    clear HB
    have HO108 := n0_
    have BK101 := n1_
    have HB := n2_
    clear n0_ n1_ n2_
    refine start_ (n := 12) (S := fun w' => w'.cell? ⟨gb101, 0, none⟩ = some (.slice A0_0 l0_0.length c0_0) ∧ w'.cell? ⟨gb101, 1, none⟩ = some (.int .i64 a0_1)) (ds := []) #[false, false, false, false, false, false, false, false, false, false, false, false] (by kernel_rfl) rfl rfl ⟨(blk_cell BK101.out 0).trans rfl, (blk_cell BK101.out 1).trans rfl⟩ (fun hHeld => ?_); refine with_tabW grommetlaw16_PathOn.tab4 grommetlaw16_PathOn.bits4 (fun HT_ HW_ => ?_)
    generalize w141.drew = w142 at HO108 BK101 HB hHeld ⊢
    refine pure_ (i := 1) (N := some 44) (v := ?_) (a' := ?_) #[false, true, false, false, false, false, false, false, false, false, false, false] rfl rfl (any_of HT_.out (by kernel_rfl)) (fun _ _ _ h => h) (Or.inl ⟨by rfl, ?_⟩) ?_ ?_
    rotate_left
    exact qzz21_
    rotate_left
    exact qzz22_
    refine pure_ (i := 3) (N := some 46) (v := ?_) (a' := ?_) #[false, true, false, true, false, false, false, false, false, false, false, false] rfl rfl (any_of HT_.out (by kernel_rfl)) (fun _ _ _ h => h) (Or.inl ⟨by rfl, ?_⟩) ?_ ?_
    rotate_left
    exact qzz21_
    rotate_left
    exact qzz22_
    refine take_ (i := 0) (N := some 43) (v := ?_) (a' := ?_) #[true, true, false, true, false, false, false, false, false, false, false, false] rfl rfl (take_ofW HT_.out HW_.out (by kernel_rfl)) (fun _ _ _ h => h) (Or.inl ⟨by rfl, ?_⟩) hHeld ?_ ?_
    rotate_left
    exact qzz23_
    rotate_left
    exact qzz22_
    refine one_ (i := 2) (N := some 45) #[true, true, true, true, false, false, false, false, false, false, false, false] rfl rfl (one_of HT_.out (by kernel_rfl)) (by decide) (fun K hK => ?_)
    refine Kd.R_append_rows_step k58 (w0 := w) w.heap.size (by rfl) (.const (.slice none 0 0)) (.tmp 44) 47 58 (.agg #[(.string ⟨#[]⟩), (.int .i64 0), (.bool false)]) 32 rfl Tryz.underlying47 info58 rfl (by decide) (by omega) (.slice none 0 0) ([] : List (S58)) l1 _ _ _ (fun _ => True) (fun _ => False) rfl rfl ?aO ?aR (fun _ _ h => h) (fun _ h => h.elim) ?aF ?aB ?aS ?aL ?_
    (case aR => repeat (first | exact (Kd.C_below HR1.out HB.out) | (with_reducible refine Kd.C_alloc ?_ _) | (with_reducible refine Kd.C_drewN ?_ _) | (with_reducible refine Kd.C_drew ?_)))
    (case aB => exact (qzz0_))
    (case aF => exact (fun _ _ => trivial))
    (case aO => exact ((Kd.R_nil _ _ _ _ (fun _ => True))))
    (case aS => exact (below_size (qzz0_)))
    (case aL => have := LMc30.out; omega)
    intro v112 w143 ho hb hg hat
    rw [← Ny111.out] at ho
    have n0_ := Aside0.mk (blk_grown (g := gb101) (o := .cells #[.slice A0_0 l0_0.length c0_0, .int .i64 a0_1] 24 (0, 0)) (qzz2_) hg (by simp [Value.ownBlock]))
    have n1_ := Aside0.mk (Kd.R_grown (qzz3_) hg (fun _ _ => by simp [Value.ownBlock]))
    have n2_ := Aside0.mk (hb)
    have n3_ := Aside0.mk (ho)
    clear BK101
    clear HO108
    clear HB
    have BK101 := n0_
    have HO108 := n1_
    have HB := n2_
    have HO113 := n3_
    clear n0_ n1_ n2_ n3_
    clear ho hb hg hat
    refine hK.out _ _ ⟨(blk_cell BK101.out 0).trans rfl, (blk_cell BK101.out 1).trans rfl⟩ (fun hHeld => ?_)
    clear hK K
    refine norm_ (a' := ?_) ?_ ?_
    rotate_left
    ·
     show Act.put _ (some 45) _ = _
     simp only [Act.put, List.setIfInBounds_toArray, List.set_cons_zero, List.set_cons_succ, i64_w, i32_w]
     rfl
    refine one_ (i := 4) (N := some 47) #[true, true, true, true, true, false, false, false, false, false, false, false] rfl rfl (one_of HT_.out (by kernel_rfl)) (by decide) (fun K hK => ?_)
    refine Kd.R_append_rows_step k58 (w0 := w) w.heap.size (by rfl) (.tmp 45) (.tmp 46) 47 58 (.agg #[(.string ⟨#[]⟩), (.int .i64 0), (.bool false)]) 32 rfl Tryz.underlying47 info58 rfl (by decide) (by omega) v112 y111 l2 _ _ _ (fun _ => True) (fun _ => False) rfl rfl ?aO ?aR (fun _ _ h => h) (fun _ h => h.elim) ?aF ?aB ?aS ?aL ?_
    (case aR => repeat (first | exact (Kd.C_below HR2.out HB.out) | (with_reducible refine Kd.C_alloc ?_ _) | (with_reducible refine Kd.C_drewN ?_ _) | (with_reducible refine Kd.C_drew ?_)))
    (case aB => exact (qzz0_))
    (case aF => exact (fun _ _ => trivial))
    (case aO => exact (qzz10_))
    (case aS => exact (below_size (qzz0_)))
    (case aL => have := LMc31.out; omega)
    intro v115 w144 ho hb hg hat
    rw [← Ny114.out] at ho
    have n0_ := Aside0.mk (blk_grown (g := gb101) (o := .cells #[.slice A0_0 l0_0.length c0_0, .int .i64 a0_1] 24 (0, 0)) (qzz2_) hg (Kd.R_ne HO113.out BK101.out (by decide)))
    have n1_ := Aside0.mk (Kd.R_over' (qzz3_) (Kd.R_typed (qzz10_)) (by decide) hg)
    have n2_ := Aside0.mk (hb)
    have n3_ := Aside0.mk (ho)
    clear BK101
    clear HO108
    clear HB
    clear HO113
    have BK101 := n0_
    have HO108 := n1_
    have HB := n2_
    have HO116 := n3_
    clear n0_ n1_ n2_ n3_
    clear ho hb hg hat
    obtain ⟨Ao145, co145, eo145⟩ := Kd.R_slice HO116.out
    (first | subst eo145 | (injection eo145 with f1_ f2_ f3_; have f4_ := f1_.symm; have f5_ := f3_.symm; clear f1_ f2_ f3_; subst f4_; subst f5_))
    refine hK.out _ _ ⟨(blk_cell BK101.out 0).trans rfl, (blk_cell BK101.out 1).trans rfl⟩ (fun hHeld => ?_)
    clear hK K
    refine norm_ (a' := ?_) ?_ ?_
    rotate_left
    ·
     show Act.put _ (some 47) _ = _
     simp only [Act.put, List.setIfInBounds_toArray, List.set_cons_zero, List.set_cons_succ, i64_w, i32_w]
     rfl
    refine one_ (i := 5) (N := some 48) #[true, true, true, true, true, true, false, false, false, false, false, false] rfl rfl (one_of HT_.out (by kernel_rfl)) (by decide) (fun K hK => ?_)
    refine goes_ Tryz.func26 (by kernel_rfl) rfl #[.slice Ao145 y114.length co145] (by rfl) rfl rfl (qzz4_) ?_
    with_reducible refine (grommetlaw16_theirs.calls kj3 _ _ y114 t117 _ ?side1 ?side2 (hG.below (qzz1_)) A32.out).mono ?_
    (case side1 => repeat (first | exact (Kd.R_reads' HO116.out).2.2 | (with_reducible refine Kd.C_alloc ?_ _) | (with_reducible refine Kd.C_drewN ?_ _) | (with_reducible refine Kd.C_drew ?_)))
    (case side2 => exact (Kd.R_reads' HO116.out).2.1)
    rintro e w146 ⟨v118, rfl, ho0, hb⟩
    refine ⟨_, rfl, ?_⟩
    have n0_ := Aside0.mk (Kd.R_elder' (qzz3_) (Kd.R_base ho0) hb)
    have n1_ := Aside0.mk (Kd.R_below (qzz6_) hb)
    have n2_ := Aside0.mk (Kd.R_lower (Kd.R_new' ho0 (Kd.R_lt (qzz3_))) (below_size (qzz0_)))
    have n3_ := Aside0.mk (blk_below (g := gb101) (o := .cells #[.slice A0_0 l0_0.length c0_0, .int .i64 a0_1] 24 (0, 0)) (qzz2_) hb)
    have n4_ := Aside0.mk (below_step (qzz0_) hb)
    clear HO108
    clear HO116
    clear BK101
    clear HB
    have HO108 := n0_
    have HO116 := n1_
    have HO119 := n2_
    have BK101 := n3_
    have HB := n4_
    clear n0_ n1_ n2_ n3_ n4_
    (try clear hb)
    (try clear hb2)
    (try clear hk)
    (try clear hi)
    (try clear ho0)
    obtain ⟨Ao147, co147, eo147⟩ := Kd.R_slice HO119.out
    (first | subst eo147 | (injection eo147 with f1_ f2_ f3_; have f4_ := f1_.symm; have f5_ := f3_.symm; clear f1_ f2_ f3_; subst f4_; subst f5_))
    refine hK.out _ _ ⟨(blk_cell BK101.out 0).trans rfl, (blk_cell BK101.out 1).trans rfl⟩ (fun hHeld => ?_)
    clear hK K
    refine norm_ (a' := ?_) ?_ ?_
    rotate_left
    ·
     show Act.put _ (some 48) _ = _
     simp only [Act.put, List.setIfInBounds_toArray, List.set_cons_zero, List.set_cons_succ, i64_w, i32_w]
     rfl
    refine one_ (i := 6) (N := some 49) #[true, true, true, true, true, true, true, false, false, false, false, false] rfl rfl (one_of HT_.out (by kernel_rfl)) (by decide) (fun K hK => ?_)
    refine goes_ Tryz.func25 (by kernel_rfl) rfl #[.agg #[.slice A0_0 l0_0.length c0_0, .int .i64 a0_1], .slice Ao147 t117.length co147] (by rfl) rfl rfl (qzz4_) ?_
    with_reducible refine (path_Get.calls kj3 _ _ l0_0 a0_1 _ _ t117 t120 t121 _ ?side1 ?side2 ?side3 ?side4 (hG.below (qzz1_)) A33.out).mono ?_
    (case side1 => repeat (first | exact (Kd.C_below HR0_0.out HB.out) | (with_reducible refine Kd.C_alloc ?_ _) | (with_reducible refine Kd.C_drewN ?_ _) | (with_reducible refine Kd.C_drew ?_)))
    (case side2 => exact HC0_0.out)
    (case side3 => repeat (first | exact (Kd.R_reads' HO119.out).2.2 | (with_reducible refine Kd.C_alloc ?_ _) | (with_reducible refine Kd.C_drewN ?_ _) | (with_reducible refine Kd.C_drew ?_)))
    (case side4 => exact (Kd.R_reads' HO119.out).2.1)
    rintro e w148 ⟨rfl, hb⟩
    refine ⟨_, rfl, ?_⟩
    have n0_ := Aside0.mk (Kd.R_below (qzz3_) hb)
    have n1_ := Aside0.mk (Kd.R_below (qzz6_) hb)
    have n2_ := Aside0.mk (Kd.R_below (qzz5_) hb)
    have n3_ := Aside0.mk (blk_below (g := gb101) (o := .cells #[.slice A0_0 l0_0.length c0_0, .int .i64 a0_1] 24 (0, 0)) (qzz2_) hb)
    have n4_ := Aside0.mk (below_step (qzz0_) hb)
    clear HO108
    clear HO116
    clear HO119
    clear BK101
    clear HB
    have HO108 := n0_
    have HO116 := n1_
    have HO119 := n2_
    have BK101 := n3_
    have HB := n4_
    clear n0_ n1_ n2_ n3_ n4_
    (try clear hb)
    (try clear hb2)
    (try clear hk)
    (try clear hi)
    refine hK.out _ _ ⟨(blk_cell BK101.out 0).trans rfl, (blk_cell BK101.out 1).trans rfl⟩ (fun hHeld => ?_)
    clear hK K
    refine norm_ (a' := ?_) ?_ ?_
    rotate_left
    ·
     show Act.put _ (some 49) _ = _
     simp only [Act.put, List.setIfInBounds_toArray, List.set_cons_zero, List.set_cons_succ, i64_w, i32_w]
     rfl
    refine pure_ (i := 7) (N := some 42) (v := ?_) (a' := ?_) #[true, true, true, true, true, true, true, true, false, false, false, false] rfl rfl (any_of HT_.out (by kernel_rfl)) (fun _ _ _ h => h) (Or.inl ⟨by rfl, ?_⟩) ?_ ?_
    rotate_left
    exact qzz21_
    rotate_left
    exact qzz22_
    refine pure_ (i := 8) (N := some 50) (v := ?_) (a' := ?_) #[true, true, true, true, true, true, true, true, true, false, false, false] rfl rfl (any_of HT_.out (by kernel_rfl)) (fun _ _ _ h => h) (Or.inl ⟨by rfl, ?_⟩) ?_ ?_
    rotate_left
    exact qzz21_
    rotate_left
    exact qzz22_
    refine pure_ (i := 9) (N := some 51) (v := ?_) (a' := ?_) #[true, true, true, true, true, true, true, true, true, true, false, false] rfl rfl (any_of HT_.out (by kernel_rfl)) (fun _ _ _ h => h) (Or.inl ⟨by rfl, ?_⟩) ?_ ?_
    rotate_left
    exact qzz21_
    rotate_left
    exact qzz22_
    refine pure_ (i := 10) (N := some 9) (v := ?_) (a' := ?_) #[true, true, true, true, true, true, true, true, true, true, true, false] rfl rfl (any_of HT_.out (by kernel_rfl)) (fun _ _ _ h => h) (Or.inl ⟨by rfl, ?_⟩) ?_ ?_
    rotate_left
    exact qzz21_
    rotate_left
    exact qzz22_
    refine pure_ (i := 11) (N := some 10) (v := ?_) (a' := ?_) #[true, true, true, true, true, true, true, true, true, true, true, true] rfl rfl (any_of HT_.out (by kernel_rfl)) (fun _ _ _ h => h) (Or.inl ⟨by rfl, ?_⟩) ?_ ?_
    rotate_left
    exact qzz21_
    rotate_left
    exact qzz22_
    refine done_ (done_of HT_.out (by kernel_rfl)) ?_
    try go_wp2_with (first | ((with_reducible refine gate_callee (f := 26) rfl ?_); refine goesL_ (some 54) rfl rfl Tryz.func26 (by kernel_rfl) rfl #[.slice A2 l2.length c2] rfl (qzz4_) ?_; (with_reducible refine (grommetlaw16_theirs.calls kj3 _ _ l2 t122 _ ?side1 ?side2 (hG.below (qzz1_)) A34.out).mono ?_); (case side1 => repeat (first | exact (Kd.C_below HR2.out HB.out) | (with_reducible refine Kd.C_alloc ?_ _) | (with_reducible refine Kd.C_drewN ?_ _) | (with_reducible refine Kd.C_drew ?_))); (case side2 => exact HC2.out); rintro e w149 ⟨v123, rfl, ho0, hb⟩; refine ⟨_, rfl, ?_⟩; have n0_ := Aside0.mk (Kd.R_elder' (qzz3_) (Kd.R_base ho0) hb); have n1_ := Aside0.mk (Kd.R_below (qzz6_) hb); have n2_ := Aside0.mk (Kd.R_elder' (qzz5_) (Kd.R_base ho0) hb); have n3_ := Aside0.mk (Kd.R_lower (Kd.R_new' (Kd.R_new' ho0 (Kd.R_lt (qzz3_))) (Kd.R_lt (qzz5_))) (below_size (qzz0_))); have n4_ := Aside0.mk (blk_below (g := gb101) (o := .cells #[.slice A0_0 l0_0.length c0_0, .int .i64 a0_1] 24 (0, 0)) (qzz2_) hb); have n5_ := Aside0.mk (below_step (qzz0_) hb); clear HO108; clear HO116; clear HO119; clear BK101; clear HB; have HO108 := n0_; have HO116 := n1_; have HO119 := n2_; have HO124 := n3_; have BK101 := n4_; have HB := n5_; clear n0_ n1_ n2_ n3_ n4_ n5_; (try clear hb); (try clear hk); (try clear ho0); obtain ⟨Ao150, co150, eo150⟩ := Kd.R_slice HO124.out; subst eo150) | ((with_reducible refine gate_callee (f := 28) rfl ?_); refine goesL_ (some 55) rfl rfl Tryz.func28 (by kernel_rfl) rfl #[.slice Ao150 t122.length co150] rfl (qzz4_) ?_; (with_reducible refine (path_Format.calls _ _ t122 t125 t126 _ ?side1 ?side2 (hG.below (qzz1_)) A35.out).mono ?_); (case side1 => repeat (first | exact (Kd.R_reads' HO124.out).2.2 | (with_reducible refine Kd.C_alloc ?_ _) | (with_reducible refine Kd.C_drewN ?_ _) | (with_reducible refine Kd.C_drew ?_))); (case side2 => exact (Kd.R_reads' HO124.out).2.1); rintro e w151 ⟨rfl, hb⟩; refine ⟨_, rfl, ?_⟩; have n0_ := Aside0.mk (Kd.R_below (qzz3_) hb); have n1_ := Aside0.mk (Kd.R_below (qzz6_) hb); have n2_ := Aside0.mk (Kd.R_below (qzz5_) hb); have n3_ := Aside0.mk (Kd.R_below (qzz8_) hb); have n4_ := Aside0.mk (blk_below (g := gb101) (o := .cells #[.slice A0_0 l0_0.length c0_0, .int .i64 a0_1] 24 (0, 0)) (qzz2_) hb); have n5_ := Aside0.mk (below_step (qzz0_) hb); clear HO108; clear HO116; clear HO119; clear HO124; clear BK101; clear HB; have HO108 := n0_; have HO116 := n1_; have HO119 := n2_; have HO124 := n3_; have BK101 := n4_; have HB := n5_; clear n0_ n1_ n2_ n3_ n4_ n5_; (try clear hb); (try clear hk)) | (go_at_call 24; (with_reducible refine (grommetlaw16_alive.calls  t128 _ (hG.below (qzz1_)) A137.out).mono ?_); rintro e w152 ⟨rfl, hb⟩; have n0_ := Aside0.mk (Kd.R_below (qzz3_) hb); have n1_ := Aside0.mk (Kd.R_below (qzz6_) hb); have n2_ := Aside0.mk (Kd.R_below (qzz5_) hb); have n3_ := Aside0.mk (Kd.R_below (qzz8_) hb); have n4_ := Aside0.mk (blk_below (g := gb101) (o := .cells #[.slice A0_0 l0_0.length c0_0, .int .i64 a0_1] 24 (0, 0)) (qzz2_) hb); have n5_ := Aside0.mk (below_step (qzz0_) hb); clear HO108; clear HO116; clear HO119; clear HO124; clear BK101; clear HB; have HO108 := n0_; have HO116 := n1_; have HO119 := n2_; have HO124 := n3_; have BK101 := n4_; have HB := n5_; clear n0_ n1_ n2_ n3_ n4_ n5_; (try clear hb); (try clear hk)))
    go_ret
    exact ⟨qzz16_, qzz0_⟩
   rw [if_pos c37] at H
   have c37b0 : (t110 == 0) = true := beq_iff_eq.mpr c37
   have c37b1 : (t110 != 0) = false := bne_eq_false_iff_eq.mpr c37
   clear c37
   replace H := Option.bind_eq_some_iff.mp H
   obtain ⟨t130, A380, H⟩ := H
   replace H : (if t130 = true then ((grommetlaw16_theirs.f kj3 l2).bind fun t131 => ((path_Get.f kj3 l0_0 t109 t131).bind fun bt134 => (if bt134.1 = t120 then (if bt134.2 = t121 then ((grommetlaw16_alive.f).bind fun t136 => (some t136)) else (some false)) else (some false)))) else (some false)) = some r := H
   have A38 := Aside0.mk A380
   clear A380
   by_cases c39 : t130 = true
   rotate_left
   ·
    replace c39 := Bool.eq_false_iff.mpr c39
    subst c39
    have H1 : (some false) = some r := by rw [if_neg (show ¬ (false = true) by decide)] at H; exact H
    clear H
    have H := H1
    clear H1
    obtain rfl := Option.some.inj H
    try go_wp2
    have n0_ := Aside0.mk (blk_drew BK101.out)
    have n1_ := Aside0.mk (below_drew1 HB.out)
    clear BK101
    clear HB
    have BK101 := n0_
    have HB := n1_
    clear n0_ n1_
    refine start_ (n := 9) (S := fun w' => w'.cell? ⟨gb101, 0, none⟩ = some (.slice A0_0 l0_0.length c0_0) ∧ w'.cell? ⟨gb101, 1, none⟩ = some (.int .i64 a0_1)) (ds := []) #[false, false, false, false, false, false, false, false, false] (by kernel_rfl) rfl rfl ⟨(blk_cell BK101.out 0).trans rfl, (blk_cell BK101.out 1).trans rfl⟩ (fun hHeld => ?_); refine with_tabW grommetlaw16_PathOn.tab3 grommetlaw16_PathOn.bits3 (fun HT_ HW_ => ?_)
    generalize wc.drew = w115 at BK101 HB hHeld ⊢
    refine pure_ (i := 1) (N := some 37) (v := ?_) (a' := ?_) #[false, true, false, false, false, false, false, false, false] rfl rfl (any_of HT_.out (by kernel_rfl)) (fun _ _ _ h => h) (Or.inl ⟨by rfl, ?_⟩) ?_ ?_
    rotate_left
    exact qzz21_
    rotate_left
    exact qzz22_
    refine take_ (i := 0) (N := some 36) (v := ?_) (a' := ?_) #[true, true, false, false, false, false, false, false, false] rfl rfl (take_ofW HT_.out HW_.out (by kernel_rfl)) (fun _ _ _ h => h) (Or.inl ⟨by rfl, ?_⟩) hHeld ?_ ?_
    rotate_left
    exact qzz23_
    rotate_left
    exact qzz22_
    refine one_ (i := 2) (N := some 38) #[true, true, true, false, false, false, false, false, false] rfl rfl (one_of HT_.out (by kernel_rfl)) (by decide) (fun K hK => ?_)
    refine goes_ Tryz.func26 (by kernel_rfl) rfl #[.slice A1 l1.length c1] (by rfl) rfl rfl (qzz4_) ?_
    with_reducible refine (grommetlaw16_theirs.calls kj3 _ _ l1 t106 _ ?side1 ?side2 (hG.below (qzz1_)) A28.out).mono ?_
    (case side1 => repeat (first | exact (Kd.C_below HR1.out HB.out) | (with_reducible refine Kd.C_alloc ?_ _) | (with_reducible refine Kd.C_drewN ?_ _) | (with_reducible refine Kd.C_drew ?_)))
    (case side2 => exact HC1.out)
    rintro e w116 ⟨v107, rfl, ho0, hb⟩
    refine ⟨_, rfl, ?_⟩
    have n0_ := Aside0.mk (Kd.R_lower ho0 (below_size (qzz0_)))
    have n1_ := Aside0.mk (blk_below (g := gb101) (o := .cells #[.slice A0_0 l0_0.length c0_0, .int .i64 a0_1] 24 (0, 0)) (qzz2_) hb)
    have n2_ := Aside0.mk (below_step (qzz0_) hb)
    clear BK101
    clear HB
    have HO108 := n0_
    have BK101 := n1_
    have HB := n2_
    clear n0_ n1_ n2_
    (try clear hb)
    (try clear hb2)
    (try clear hk)
    (try clear hi)
    (try clear ho0)
    obtain ⟨Ao117, co117, eo117⟩ := Kd.R_slice HO108.out
    (first | subst eo117 | (injection eo117 with f1_ f2_ f3_; have f4_ := f1_.symm; have f5_ := f3_.symm; clear f1_ f2_ f3_; subst f4_; subst f5_))
    refine hK.out _ _ ⟨(blk_cell BK101.out 0).trans rfl, (blk_cell BK101.out 1).trans rfl⟩ (fun hHeld => ?_)
    clear hK K
    refine norm_ (a' := ?_) ?_ ?_
    rotate_left
    ·
     show Act.put _ (some 38) _ = _
     simp only [Act.put, List.setIfInBounds_toArray, List.set_cons_zero, List.set_cons_succ, i64_w, i32_w]
     rfl
    refine one_ (i := 3) (N := some 39) #[true, true, true, true, false, false, false, false, false] rfl rfl (one_of HT_.out (by kernel_rfl)) (by decide) (fun K hK => ?_)
    refine goes_ Tryz.func25 (by kernel_rfl) rfl #[.agg #[.slice A0_0 l0_0.length c0_0, .int .i64 a0_1], .slice Ao117 t106.length co117] (by rfl) rfl rfl (qzz4_) ?_
    with_reducible refine (path_Get.calls kj3 _ _ l0_0 a0_1 _ _ t106 t109 t110 _ ?side1 ?side2 ?side3 ?side4 (hG.below (qzz1_)) A29.out).mono ?_
    (case side1 => repeat (first | exact (Kd.C_below HR0_0.out HB.out) | (with_reducible refine Kd.C_alloc ?_ _) | (with_reducible refine Kd.C_drewN ?_ _) | (with_reducible refine Kd.C_drew ?_)))
    (case side2 => exact HC0_0.out)
    (case side3 => repeat (first | exact (Kd.R_reads' HO108.out).2.2 | (with_reducible refine Kd.C_alloc ?_ _) | (with_reducible refine Kd.C_drewN ?_ _) | (with_reducible refine Kd.C_drew ?_)))
    (case side4 => exact (Kd.R_reads' HO108.out).2.1)
    rintro e w118 ⟨rfl, hb⟩
    refine ⟨_, rfl, ?_⟩
    have n0_ := Aside0.mk (Kd.R_below (qzz3_) hb)
    have n1_ := Aside0.mk (blk_below (g := gb101) (o := .cells #[.slice A0_0 l0_0.length c0_0, .int .i64 a0_1] 24 (0, 0)) (qzz2_) hb)
    have n2_ := Aside0.mk (below_step (qzz0_) hb)
    clear HO108
    clear BK101
    clear HB
    have HO108 := n0_
    have BK101 := n1_
    have HB := n2_
    clear n0_ n1_ n2_
    (try clear hb)
    (try clear hb2)
    (try clear hk)
    (try clear hi)
    refine hK.out _ _ ⟨(blk_cell BK101.out 0).trans rfl, (blk_cell BK101.out 1).trans rfl⟩ (fun hHeld => ?_)
    clear hK K
    refine norm_ (a' := ?_) ?_ ?_
    rotate_left
    ·
     show Act.put _ (some 39) _ = _
     simp only [Act.put, List.setIfInBounds_toArray, List.set_cons_zero, List.set_cons_succ, i64_w, i32_w]
     rfl
    refine pure_ (i := 4) (N := some 35) (v := ?_) (a' := ?_) #[true, true, true, true, true, false, false, false, false] rfl rfl (any_of HT_.out (by kernel_rfl)) (fun _ _ _ h => h) (Or.inl ⟨by rfl, ?_⟩) ?_ ?_
    rotate_left
    exact qzz21_
    rotate_left
    exact qzz22_
    refine pure_ (i := 5) (N := some 40) (v := ?_) (a' := ?_) #[true, true, true, true, true, true, false, false, false] rfl rfl (any_of HT_.out (by kernel_rfl)) (fun _ _ _ h => h) (Or.inl ⟨by rfl, ?_⟩) ?_ ?_
    rotate_left
    exact qzz21_
    rotate_left
    exact qzz22_
    refine pure_ (i := 6) (N := some 41) (v := ?_) (a' := ?_) #[true, true, true, true, true, true, true, false, false] rfl rfl (any_of HT_.out (by kernel_rfl)) (fun _ _ _ h => h) (Or.inl ⟨by rfl, ?_⟩) ?_ ?_
    rotate_left
    exact qzz21_
    rotate_left
    exact qzz22_
    refine pure_ (i := 7) (N := some 7) (v := ?_) (a' := ?_) #[true, true, true, true, true, true, true, true, false] rfl rfl (any_of HT_.out (by kernel_rfl)) (fun _ _ _ h => h) (Or.inl ⟨by rfl, ?_⟩) ?_ ?_
    rotate_left
    exact qzz21_
    rotate_left
    exact qzz22_
    refine pure_ (i := 8) (N := some 8) (v := ?_) (a' := ?_) #[true, true, true, true, true, true, true, true, true] rfl rfl (any_of HT_.out (by kernel_rfl)) (fun _ _ _ h => h) (Or.inl ⟨by rfl, ?_⟩) ?_ ?_
    rotate_left
    exact qzz21_
    rotate_left
    exact qzz22_
    refine done_ (done_of HT_.out (by kernel_rfl)) ?_
    try go_wp2
    have n0_ := Aside0.mk (Kd.R_drew HO108.out)
    have n1_ := Aside0.mk (blk_drew BK101.out)
    have n2_ := Aside0.mk (below_drew1 HB.out)
    clear HO108
    clear BK101
    clear HB
    have HO108 := n0_
    have BK101 := n1_
    have HB := n2_
    clear n0_ n1_ n2_
    refine start_ (n := 12) (S := fun w' => w'.cell? ⟨gb101, 0, none⟩ = some (.slice A0_0 l0_0.length c0_0) ∧ w'.cell? ⟨gb101, 1, none⟩ = some (.int .i64 a0_1)) (ds := []) #[false, false, false, false, false, false, false, false, false, false, false, false] (by kernel_rfl) rfl rfl ⟨(blk_cell BK101.out 0).trans rfl, (blk_cell BK101.out 1).trans rfl⟩ (fun hHeld => ?_); refine with_tabW grommetlaw16_PathOn.tab4 grommetlaw16_PathOn.bits4 (fun HT_ HW_ => ?_)
    generalize w118.drew = w119 at HO108 BK101 HB hHeld ⊢
    refine pure_ (i := 1) (N := some 44) (v := ?_) (a' := ?_) #[false, true, false, false, false, false, false, false, false, false, false, false] rfl rfl (any_of HT_.out (by kernel_rfl)) (fun _ _ _ h => h) (Or.inl ⟨by rfl, ?_⟩) ?_ ?_
    rotate_left
    exact qzz21_
    rotate_left
    exact qzz22_
    refine pure_ (i := 3) (N := some 46) (v := ?_) (a' := ?_) #[false, true, false, true, false, false, false, false, false, false, false, false] rfl rfl (any_of HT_.out (by kernel_rfl)) (fun _ _ _ h => h) (Or.inl ⟨by rfl, ?_⟩) ?_ ?_
    rotate_left
    exact qzz21_
    rotate_left
    exact qzz22_
    refine take_ (i := 0) (N := some 43) (v := ?_) (a' := ?_) #[true, true, false, true, false, false, false, false, false, false, false, false] rfl rfl (take_ofW HT_.out HW_.out (by kernel_rfl)) (fun _ _ _ h => h) (Or.inl ⟨by rfl, ?_⟩) hHeld ?_ ?_
    rotate_left
    exact qzz23_
    rotate_left
    exact qzz22_
    refine one_ (i := 2) (N := some 45) #[true, true, true, true, false, false, false, false, false, false, false, false] rfl rfl (one_of HT_.out (by kernel_rfl)) (by decide) (fun K hK => ?_)
    refine Kd.R_append_rows_step k58 (w0 := w) w.heap.size (by rfl) (.const (.slice none 0 0)) (.tmp 44) 47 58 (.agg #[(.string ⟨#[]⟩), (.int .i64 0), (.bool false)]) 32 rfl Tryz.underlying47 info58 rfl (by decide) (by omega) (.slice none 0 0) ([] : List (S58)) l1 _ _ _ (fun _ => True) (fun _ => False) rfl rfl ?aO ?aR (fun _ _ h => h) (fun _ h => h.elim) ?aF ?aB ?aS ?aL ?_
    (case aR => repeat (first | exact (Kd.C_below HR1.out HB.out) | (with_reducible refine Kd.C_alloc ?_ _) | (with_reducible refine Kd.C_drewN ?_ _) | (with_reducible refine Kd.C_drew ?_)))
    (case aB => exact (qzz0_))
    (case aF => exact (fun _ _ => trivial))
    (case aO => exact ((Kd.R_nil _ _ _ _ (fun _ => True))))
    (case aS => exact (below_size (qzz0_)))
    (case aL => have := LMc30.out; omega)
    intro v112 w120 ho hb hg hat
    rw [← Ny111.out] at ho
    have n0_ := Aside0.mk (blk_grown (g := gb101) (o := .cells #[.slice A0_0 l0_0.length c0_0, .int .i64 a0_1] 24 (0, 0)) (qzz2_) hg (by simp [Value.ownBlock]))
    have n1_ := Aside0.mk (Kd.R_grown (qzz3_) hg (fun _ _ => by simp [Value.ownBlock]))
    have n2_ := Aside0.mk (hb)
    have n3_ := Aside0.mk (ho)
    clear BK101
    clear HO108
    clear HB
    have BK101 := n0_
    have HO108 := n1_
    have HB := n2_
    have HO113 := n3_
    clear n0_ n1_ n2_ n3_
    clear ho hb hg hat
    refine hK.out _ _ ⟨(blk_cell BK101.out 0).trans rfl, (blk_cell BK101.out 1).trans rfl⟩ (fun hHeld => ?_)
    clear hK K
    refine norm_ (a' := ?_) ?_ ?_
    rotate_left
    ·
     show Act.put _ (some 45) _ = _
     simp only [Act.put, List.setIfInBounds_toArray, List.set_cons_zero, List.set_cons_succ, i64_w, i32_w]
     rfl
    refine one_ (i := 4) (N := some 47) #[true, true, true, true, true, false, false, false, false, false, false, false] rfl rfl (one_of HT_.out (by kernel_rfl)) (by decide) (fun K hK => ?_)
    refine Kd.R_append_rows_step k58 (w0 := w) w.heap.size (by rfl) (.tmp 45) (.tmp 46) 47 58 (.agg #[(.string ⟨#[]⟩), (.int .i64 0), (.bool false)]) 32 rfl Tryz.underlying47 info58 rfl (by decide) (by omega) v112 y111 l2 _ _ _ (fun _ => True) (fun _ => False) rfl rfl ?aO ?aR (fun _ _ h => h) (fun _ h => h.elim) ?aF ?aB ?aS ?aL ?_
    (case aR => repeat (first | exact (Kd.C_below HR2.out HB.out) | (with_reducible refine Kd.C_alloc ?_ _) | (with_reducible refine Kd.C_drewN ?_ _) | (with_reducible refine Kd.C_drew ?_)))
    (case aB => exact (qzz0_))
    (case aF => exact (fun _ _ => trivial))
    (case aO => exact (qzz10_))
    (case aS => exact (below_size (qzz0_)))
    (case aL => have := LMc31.out; omega)
    intro v115 w121 ho hb hg hat
    rw [← Ny114.out] at ho
    have n0_ := Aside0.mk (blk_grown (g := gb101) (o := .cells #[.slice A0_0 l0_0.length c0_0, .int .i64 a0_1] 24 (0, 0)) (qzz2_) hg (Kd.R_ne HO113.out BK101.out (by decide)))
    have n1_ := Aside0.mk (Kd.R_over' (qzz3_) (Kd.R_typed (qzz10_)) (by decide) hg)
    have n2_ := Aside0.mk (hb)
    have n3_ := Aside0.mk (ho)
    clear BK101
    clear HO108
    clear HB
    clear HO113
    have BK101 := n0_
    have HO108 := n1_
    have HB := n2_
    have HO116 := n3_
    clear n0_ n1_ n2_ n3_
    clear ho hb hg hat
    obtain ⟨Ao122, co122, eo122⟩ := Kd.R_slice HO116.out
    (first | subst eo122 | (injection eo122 with f1_ f2_ f3_; have f4_ := f1_.symm; have f5_ := f3_.symm; clear f1_ f2_ f3_; subst f4_; subst f5_))
    refine hK.out _ _ ⟨(blk_cell BK101.out 0).trans rfl, (blk_cell BK101.out 1).trans rfl⟩ (fun hHeld => ?_)
    clear hK K
    refine norm_ (a' := ?_) ?_ ?_
    rotate_left
    ·
     show Act.put _ (some 47) _ = _
     simp only [Act.put, List.setIfInBounds_toArray, List.set_cons_zero, List.set_cons_succ, i64_w, i32_w]
     rfl
    refine one_ (i := 5) (N := some 48) #[true, true, true, true, true, true, false, false, false, false, false, false] rfl rfl (one_of HT_.out (by kernel_rfl)) (by decide) (fun K hK => ?_)
    refine goes_ Tryz.func26 (by kernel_rfl) rfl #[.slice Ao122 y114.length co122] (by rfl) rfl rfl (qzz4_) ?_
    with_reducible refine (grommetlaw16_theirs.calls kj3 _ _ y114 t117 _ ?side1 ?side2 (hG.below (qzz1_)) A32.out).mono ?_
    (case side1 => repeat (first | exact (Kd.R_reads' HO116.out).2.2 | (with_reducible refine Kd.C_alloc ?_ _) | (with_reducible refine Kd.C_drewN ?_ _) | (with_reducible refine Kd.C_drew ?_)))
    (case side2 => exact (Kd.R_reads' HO116.out).2.1)
    rintro e w123 ⟨v118, rfl, ho0, hb⟩
    refine ⟨_, rfl, ?_⟩
    have n0_ := Aside0.mk (Kd.R_elder' (qzz3_) (Kd.R_base ho0) hb)
    have n1_ := Aside0.mk (Kd.R_below (qzz6_) hb)
    have n2_ := Aside0.mk (Kd.R_lower (Kd.R_new' ho0 (Kd.R_lt (qzz3_))) (below_size (qzz0_)))
    have n3_ := Aside0.mk (blk_below (g := gb101) (o := .cells #[.slice A0_0 l0_0.length c0_0, .int .i64 a0_1] 24 (0, 0)) (qzz2_) hb)
    have n4_ := Aside0.mk (below_step (qzz0_) hb)
    clear HO108
    clear HO116
    clear BK101
    clear HB
    have HO108 := n0_
    have HO116 := n1_
    have HO119 := n2_
    have BK101 := n3_
    have HB := n4_
    clear n0_ n1_ n2_ n3_ n4_
    (try clear hb)
    (try clear hb2)
    (try clear hk)
    (try clear hi)
    (try clear ho0)
    obtain ⟨Ao124, co124, eo124⟩ := Kd.R_slice HO119.out
    (first | subst eo124 | (injection eo124 with f1_ f2_ f3_; have f4_ := f1_.symm; have f5_ := f3_.symm; clear f1_ f2_ f3_; subst f4_; subst f5_))
    refine hK.out _ _ ⟨(blk_cell BK101.out 0).trans rfl, (blk_cell BK101.out 1).trans rfl⟩ (fun hHeld => ?_)
    clear hK K
    refine norm_ (a' := ?_) ?_ ?_
    rotate_left
    ·
     show Act.put _ (some 48) _ = _
     simp only [Act.put, List.setIfInBounds_toArray, List.set_cons_zero, List.set_cons_succ, i64_w, i32_w]
     rfl
    refine one_ (i := 6) (N := some 49) #[true, true, true, true, true, true, true, false, false, false, false, false] rfl rfl (one_of HT_.out (by kernel_rfl)) (by decide) (fun K hK => ?_)
    refine goes_ Tryz.func25 (by kernel_rfl) rfl #[.agg #[.slice A0_0 l0_0.length c0_0, .int .i64 a0_1], .slice Ao124 t117.length co124] (by rfl) rfl rfl (qzz4_) ?_
    with_reducible refine (path_Get.calls kj3 _ _ l0_0 a0_1 _ _ t117 t120 t121 _ ?side1 ?side2 ?side3 ?side4 (hG.below (qzz1_)) A33.out).mono ?_
    (case side1 => repeat (first | exact (Kd.C_below HR0_0.out HB.out) | (with_reducible refine Kd.C_alloc ?_ _) | (with_reducible refine Kd.C_drewN ?_ _) | (with_reducible refine Kd.C_drew ?_)))
    (case side2 => exact HC0_0.out)
    (case side3 => repeat (first | exact (Kd.R_reads' HO119.out).2.2 | (with_reducible refine Kd.C_alloc ?_ _) | (with_reducible refine Kd.C_drewN ?_ _) | (with_reducible refine Kd.C_drew ?_)))
    (case side4 => exact (Kd.R_reads' HO119.out).2.1)
    rintro e w125 ⟨rfl, hb⟩
    refine ⟨_, rfl, ?_⟩
    have n0_ := Aside0.mk (Kd.R_below (qzz3_) hb)
    have n1_ := Aside0.mk (Kd.R_below (qzz6_) hb)
    have n2_ := Aside0.mk (Kd.R_below (qzz5_) hb)
    have n3_ := Aside0.mk (blk_below (g := gb101) (o := .cells #[.slice A0_0 l0_0.length c0_0, .int .i64 a0_1] 24 (0, 0)) (qzz2_) hb)
    have n4_ := Aside0.mk (below_step (qzz0_) hb)
    clear HO108
    clear HO116
    clear HO119
    clear BK101
    clear HB
    have HO108 := n0_
    have HO116 := n1_
    have HO119 := n2_
    have BK101 := n3_
    have HB := n4_
    clear n0_ n1_ n2_ n3_ n4_
    (try clear hb)
    (try clear hb2)
    (try clear hk)
    (try clear hi)
    refine hK.out _ _ ⟨(blk_cell BK101.out 0).trans rfl, (blk_cell BK101.out 1).trans rfl⟩ (fun hHeld => ?_)
    clear hK K
    refine norm_ (a' := ?_) ?_ ?_
    rotate_left
    ·
     show Act.put _ (some 49) _ = _
     simp only [Act.put, List.setIfInBounds_toArray, List.set_cons_zero, List.set_cons_succ, i64_w, i32_w]
     rfl
    refine pure_ (i := 7) (N := some 42) (v := ?_) (a' := ?_) #[true, true, true, true, true, true, true, true, false, false, false, false] rfl rfl (any_of HT_.out (by kernel_rfl)) (fun _ _ _ h => h) (Or.inl ⟨by rfl, ?_⟩) ?_ ?_
    rotate_left
    exact qzz21_
    rotate_left
    exact qzz22_
    refine pure_ (i := 8) (N := some 50) (v := ?_) (a' := ?_) #[true, true, true, true, true, true, true, true, true, false, false, false] rfl rfl (any_of HT_.out (by kernel_rfl)) (fun _ _ _ h => h) (Or.inl ⟨by rfl, ?_⟩) ?_ ?_
    rotate_left
    exact qzz21_
    rotate_left
    exact qzz22_
    refine pure_ (i := 9) (N := some 51) (v := ?_) (a' := ?_) #[true, true, true, true, true, true, true, true, true, true, false, false] rfl rfl (any_of HT_.out (by kernel_rfl)) (fun _ _ _ h => h) (Or.inl ⟨by rfl, ?_⟩) ?_ ?_
    rotate_left
    exact qzz21_
    rotate_left
    exact qzz22_
    refine pure_ (i := 10) (N := some 9) (v := ?_) (a' := ?_) #[true, true, true, true, true, true, true, true, true, true, true, false] rfl rfl (any_of HT_.out (by kernel_rfl)) (fun _ _ _ h => h) (Or.inl ⟨by rfl, ?_⟩) ?_ ?_
    rotate_left
    exact qzz21_
    rotate_left
    exact qzz22_
    refine pure_ (i := 11) (N := some 10) (v := ?_) (a' := ?_) #[true, true, true, true, true, true, true, true, true, true, true, true] rfl rfl (any_of HT_.out (by kernel_rfl)) (fun _ _ _ h => h) (Or.inl ⟨by rfl, ?_⟩) ?_ ?_
    rotate_left
    exact qzz21_
    rotate_left
    exact qzz22_
    refine done_ (done_of HT_.out (by kernel_rfl)) ?_
    try go_wp2_with (first | ((with_reducible refine gate_callee (f := 26) rfl ?_); refine goesL_ (some 54) rfl rfl Tryz.func26 (by kernel_rfl) rfl #[.slice A2 l2.length c2] rfl (qzz4_) ?_; (with_reducible refine (grommetlaw16_theirs.calls kj3 _ _ l2 t122 _ ?side1 ?side2 (hG.below (qzz1_)) A34.out).mono ?_); (case side1 => repeat (first | exact (Kd.C_below HR2.out HB.out) | (with_reducible refine Kd.C_alloc ?_ _) | (with_reducible refine Kd.C_drewN ?_ _) | (with_reducible refine Kd.C_drew ?_))); (case side2 => exact HC2.out); rintro e w126 ⟨v123, rfl, ho0, hb⟩; refine ⟨_, rfl, ?_⟩; have n0_ := Aside0.mk (Kd.R_elder' (qzz3_) (Kd.R_base ho0) hb); have n1_ := Aside0.mk (Kd.R_below (qzz6_) hb); have n2_ := Aside0.mk (Kd.R_elder' (qzz5_) (Kd.R_base ho0) hb); have n3_ := Aside0.mk (Kd.R_lower (Kd.R_new' (Kd.R_new' ho0 (Kd.R_lt (qzz3_))) (Kd.R_lt (qzz5_))) (below_size (qzz0_))); have n4_ := Aside0.mk (blk_below (g := gb101) (o := .cells #[.slice A0_0 l0_0.length c0_0, .int .i64 a0_1] 24 (0, 0)) (qzz2_) hb); have n5_ := Aside0.mk (below_step (qzz0_) hb); clear HO108; clear HO116; clear HO119; clear BK101; clear HB; have HO108 := n0_; have HO116 := n1_; have HO119 := n2_; have HO124 := n3_; have BK101 := n4_; have HB := n5_; clear n0_ n1_ n2_ n3_ n4_ n5_; (try clear hb); (try clear hk); (try clear ho0); obtain ⟨Ao127, co127, eo127⟩ := Kd.R_slice HO124.out; subst eo127) | ((with_reducible refine gate_callee (f := 28) rfl ?_); refine goesL_ (some 55) rfl rfl Tryz.func28 (by kernel_rfl) rfl #[.slice Ao127 t122.length co127] rfl (qzz4_) ?_; (with_reducible refine (path_Format.calls _ _ t122 t125 t126 _ ?side1 ?side2 (hG.below (qzz1_)) A35.out).mono ?_); (case side1 => repeat (first | exact (Kd.R_reads' HO124.out).2.2 | (with_reducible refine Kd.C_alloc ?_ _) | (with_reducible refine Kd.C_drewN ?_ _) | (with_reducible refine Kd.C_drew ?_))); (case side2 => exact (Kd.R_reads' HO124.out).2.1); rintro e w128 ⟨rfl, hb⟩; refine ⟨_, rfl, ?_⟩; have n0_ := Aside0.mk (Kd.R_below (qzz3_) hb); have n1_ := Aside0.mk (Kd.R_below (qzz6_) hb); have n2_ := Aside0.mk (Kd.R_below (qzz5_) hb); have n3_ := Aside0.mk (Kd.R_below (qzz8_) hb); have n4_ := Aside0.mk (blk_below (g := gb101) (o := .cells #[.slice A0_0 l0_0.length c0_0, .int .i64 a0_1] 24 (0, 0)) (qzz2_) hb); have n5_ := Aside0.mk (below_step (qzz0_) hb); clear HO108; clear HO116; clear HO119; clear HO124; clear BK101; clear HB; have HO108 := n0_; have HO116 := n1_; have HO119 := n2_; have HO124 := n3_; have BK101 := n4_; have HB := n5_; clear n0_ n1_ n2_ n3_ n4_ n5_; (try clear hb); (try clear hk); have hcz129_0 : w128.cell? ⟨gb101, 0, none⟩ = some (.slice A0_0 l0_0.length c0_0) := (blk_cell BK101.out 0).trans rfl; have hcz129_1 : w128.cell? ⟨gb101, 1, none⟩ = some (.int .i64 a0_1) := (blk_cell BK101.out 1).trans rfl; have hfz129_0 := blk_frozen BK101.out 0; have hfz129_1 := blk_frozen BK101.out 1) | ((with_reducible refine gate_dst (N := 13) rfl ?_); (try (refine gate_guard (by rfl) ?_; dsimp only)); refine box_event ?hg (N := 13) ?hd (cs := #[.slice none 0 0, .int .i64 0]) (t := 24) ?hr ?_; (case hd => rfl); (case hg => rfl); (case hr => first | (go_simp; done) | (go_simp; rfl)); intro gb129 hg w130 hbox hb; have n0_ := Aside0.mk (Kd.R_below (qzz3_) hb); have n1_ := Aside0.mk (Kd.R_below (qzz6_) hb); have n2_ := Aside0.mk (Kd.R_below (qzz5_) hb); have n3_ := Aside0.mk (Kd.R_below (qzz8_) hb); have n4_ := Aside0.mk (blk_below (g := gb101) (o := .cells #[.slice A0_0 l0_0.length c0_0, .int .i64 a0_1] 24 (0, 0)) (qzz2_) hb); have n5_ := Aside0.mk (below_step (qzz0_) hb); have n6_ := Aside0.mk (hbox); have n7_ := Aside0.mk ((by rw [hg]; exact (below_size (qzz0_)) : w.heap.size ≤ gb129)); have n8_ := Aside0.mk ((by rw [hg]; exact (below_size (qzz0_)) : w.heap.size ≤ gb129)); have n9_ := Aside0.mk ((by rw [hg]; exact Nat.ne_of_lt (blk_lt (g := gb101) (o := .cells #[.slice A0_0 l0_0.length c0_0, .int .i64 a0_1] 24 (0, 0)) (qzz2_)) : gb101 ≠ gb129)); have n10_ := Aside0.mk ((by rw [hg]; exact Nat.ne_of_gt (blk_lt (g := gb101) (o := .cells #[.slice A0_0 l0_0.length c0_0, .int .i64 a0_1] 24 (0, 0)) (qzz2_)) : gb129 ≠ gb101)); clear HO108; clear HO116; clear HO119; clear HO124; clear BK101; clear HB; have HO108 := n0_; have HO116 := n1_; have HO119 := n2_; have HO124 := n3_; have BK101 := n4_; have HB := n5_; have BK129 := n6_; have GW129 := n7_; have GE129 := n8_; have NB101_129 := n9_; have NB129_101 := n10_; clear n0_ n1_ n2_ n3_ n4_ n5_ n6_ n7_ n8_ n9_ n10_; clear hb hbox hg; have hnb131 := NB129_101.out; have hnc131 := NB101_129.out; have hcz132_0 : w130.cell? ⟨gb129, 0, none⟩ = some (.slice none 0 0) := (blk_cell BK129.out 0).trans rfl; have hcz132_1 : w130.cell? ⟨gb129, 1, none⟩ = some (.int .i64 0) := (blk_cell BK129.out 1).trans rfl; have hfz132_0 := blk_frozen BK129.out 0; have hfz132_1 := blk_frozen BK129.out 1; have hput_ : (((w130.setCell ⟨gb129, 0, none⟩ (.slice A0_0 l0_0.length c0_0)).setCell ⟨gb129, 1, none⟩ (.int .i64 a0_1)).setCell ⟨gb129, 1, none⟩ (.int .i64 t109)).cell? ⟨gb129, 1, none⟩ = some (.int .i64 t109) := (blk_cell (blk_put (blk_put (blk_put BK129.out 0 _ rfl) 1 _ rfl) 1 _ rfl) 1).trans rfl) | ((with_reducible refine gate_callee (f := 29) rfl ?_); refine goesL_ (some 85) rfl rfl Tryz.func29 (by kernel_rfl) rfl #[.agg #[.slice A0_0 l0_0.length c0_0, .int .i64 t109]] rfl (qzz4_) ?_; (with_reducible refine (graph_Right.calls _ _ l0_0 t109 false _ ?side1 ?side2 (hG.below (qzz1_)) A38.out).mono ?_); (case side1 => exact Kd.C_below HR0_0.out (qzz7_)); (case side2 => exact HC0_0.out); rintro e w133 ⟨rfl, hb⟩; refine ⟨_, rfl, ?_⟩; have n0_ := Aside0.mk (Kd.R_below (qzz15_) hb); have n1_ := Aside0.mk (Kd.R_below (qzz14_) hb); have n2_ := Aside0.mk (Kd.R_below (qzz13_) hb); have n3_ := Aside0.mk (Kd.R_below (qzz12_) hb); have n4_ := Aside0.mk (blk_below (g := gb101) (o := .cells #[.slice A0_0 l0_0.length c0_0, .int .i64 a0_1] 24 (0, 0)) (qzz11_) hb); have n5_ := Aside0.mk (blk_below (g := gb129) (o := .cells #[.slice A0_0 l0_0.length c0_0, .int .i64 t109] 24 (0, 0)) (qzz9_) hb); have n6_ := Aside0.mk (below_step (qzz7_) hb); clear HO108; clear HO116; clear HO119; clear HO124; clear BK101; clear BK129; clear HB; have HO108 := n0_; have HO116 := n1_; have HO119 := n2_; have HO124 := n3_; have BK101 := n4_; have BK129 := n5_; have HB := n6_; clear n0_ n1_ n2_ n3_ n4_ n5_ n6_; (try clear hb); (try clear hk)))
    go_ret
    exact ⟨qzz16_, qzz7_⟩
   subst c39
   have H1 : ((grommetlaw16_theirs.f kj3 l2).bind fun t131 => ((path_Get.f kj3 l0_0 t109 t131).bind fun bt134 => (if bt134.1 = t120 then (if bt134.2 = t121 then ((grommetlaw16_alive.f).bind fun t136 => (some t136)) else (some false)) else (some false)))) = some r := by rw [if_pos rfl] at H; exact H
   clear H
   have H := H1
   clear H1
   replace H := Option.bind_eq_some_iff.mp H
   obtain ⟨t131, A400, H⟩ := H
   replace H : ((path_Get.f kj3 l0_0 t109 t131).bind fun bt134 => (if bt134.1 = t120 then (if bt134.2 = t121 then ((grommetlaw16_alive.f).bind fun t136 => (some t136)) else (some false)) else (some false))) = some r := H
   have A40 := Aside0.mk A400
   clear A400
   replace H := Option.bind_eq_some_iff.mp H
   obtain ⟨⟨t134, t135⟩, A410, H⟩ := H
   replace H : (if t134 = t120 then (if t135 = t121 then ((grommetlaw16_alive.f).bind fun t136 => (some t136)) else (some false)) else (some false)) = some r := H
   have A41 := Aside0.mk A410
   clear A410
   by_cases c42 : t134 = t120
   rotate_left
   ·
    rw [if_neg c42] at H
    have c42b0 : (t134 == t120) = false := beq_eq_false_iff_ne.mpr c42
    have c42b1 : (t134 != t120) = true := bne_iff_ne.mpr c42
    obtain rfl := Option.some.inj H
    try go_wp2
    have n0_ := Aside0.mk (blk_drew BK101.out)
    have n1_ := Aside0.mk (below_drew1 HB.out)
    clear BK101
    clear HB
    have BK101 := n0_
    have HB := n1_
    clear n0_ n1_
    refine start_ (n := 9) (S := fun w' => w'.cell? ⟨gb101, 0, none⟩ = some (.slice A0_0 l0_0.length c0_0) ∧ w'.cell? ⟨gb101, 1, none⟩ = some (.int .i64 a0_1)) (ds := []) #[false, false, false, false, false, false, false, false, false] (by kernel_rfl) rfl rfl ⟨(blk_cell BK101.out 0).trans rfl, (blk_cell BK101.out 1).trans rfl⟩ (fun hHeld => ?_); refine with_tabW grommetlaw16_PathOn.tab3 grommetlaw16_PathOn.bits3 (fun HT_ HW_ => ?_)
    generalize wc.drew = w92 at BK101 HB hHeld ⊢
    refine pure_ (i := 1) (N := some 37) (v := ?_) (a' := ?_) #[false, true, false, false, false, false, false, false, false] rfl rfl (any_of HT_.out (by kernel_rfl)) (fun _ _ _ h => h) (Or.inl ⟨by rfl, ?_⟩) ?_ ?_
    rotate_left
    exact qzz21_
    rotate_left
    exact qzz22_
    refine take_ (i := 0) (N := some 36) (v := ?_) (a' := ?_) #[true, true, false, false, false, false, false, false, false] rfl rfl (take_ofW HT_.out HW_.out (by kernel_rfl)) (fun _ _ _ h => h) (Or.inl ⟨by rfl, ?_⟩) hHeld ?_ ?_
    rotate_left
    exact qzz23_
    rotate_left
    exact qzz22_
    refine one_ (i := 2) (N := some 38) #[true, true, true, false, false, false, false, false, false] rfl rfl (one_of HT_.out (by kernel_rfl)) (by decide) (fun K hK => ?_)
    refine goes_ Tryz.func26 (by kernel_rfl) rfl #[.slice A1 l1.length c1] (by rfl) rfl rfl (qzz4_) ?_
    with_reducible refine (grommetlaw16_theirs.calls kj3 _ _ l1 t106 _ ?side1 ?side2 (hG.below (qzz1_)) A28.out).mono ?_
    (case side1 => repeat (first | exact (Kd.C_below HR1.out HB.out) | (with_reducible refine Kd.C_alloc ?_ _) | (with_reducible refine Kd.C_drewN ?_ _) | (with_reducible refine Kd.C_drew ?_)))
    (case side2 => exact HC1.out)
    rintro e w93 ⟨v107, rfl, ho0, hb⟩
    refine ⟨_, rfl, ?_⟩
    have n0_ := Aside0.mk (Kd.R_lower ho0 (below_size (qzz0_)))
    have n1_ := Aside0.mk (blk_below (g := gb101) (o := .cells #[.slice A0_0 l0_0.length c0_0, .int .i64 a0_1] 24 (0, 0)) (qzz2_) hb)
    have n2_ := Aside0.mk (below_step (qzz0_) hb)
    clear BK101
    clear HB
    have HO108 := n0_
    have BK101 := n1_
    have HB := n2_
    clear n0_ n1_ n2_
    (try clear hb)
    (try clear hb2)
    (try clear hk)
    (try clear hi)
    (try clear ho0)
    obtain ⟨Ao94, co94, eo94⟩ := Kd.R_slice HO108.out
    (first | subst eo94 | (injection eo94 with f1_ f2_ f3_; have f4_ := f1_.symm; have f5_ := f3_.symm; clear f1_ f2_ f3_; subst f4_; subst f5_))
    refine hK.out _ _ ⟨(blk_cell BK101.out 0).trans rfl, (blk_cell BK101.out 1).trans rfl⟩ (fun hHeld => ?_)
    clear hK K
    refine norm_ (a' := ?_) ?_ ?_
    rotate_left
    ·
     show Act.put _ (some 38) _ = _
     simp only [Act.put, List.setIfInBounds_toArray, List.set_cons_zero, List.set_cons_succ, i64_w, i32_w]
     rfl
    refine one_ (i := 3) (N := some 39) #[true, true, true, true, false, false, false, false, false] rfl rfl (one_of HT_.out (by kernel_rfl)) (by decide) (fun K hK => ?_)
    refine goes_ Tryz.func25 (by kernel_rfl) rfl #[.agg #[.slice A0_0 l0_0.length c0_0, .int .i64 a0_1], .slice Ao94 t106.length co94] (by rfl) rfl rfl (qzz4_) ?_
    with_reducible refine (path_Get.calls kj3 _ _ l0_0 a0_1 _ _ t106 t109 t110 _ ?side1 ?side2 ?side3 ?side4 (hG.below (qzz1_)) A29.out).mono ?_
    (case side1 => repeat (first | exact (Kd.C_below HR0_0.out HB.out) | (with_reducible refine Kd.C_alloc ?_ _) | (with_reducible refine Kd.C_drewN ?_ _) | (with_reducible refine Kd.C_drew ?_)))
    (case side2 => exact HC0_0.out)
    (case side3 => repeat (first | exact (Kd.R_reads' HO108.out).2.2 | (with_reducible refine Kd.C_alloc ?_ _) | (with_reducible refine Kd.C_drewN ?_ _) | (with_reducible refine Kd.C_drew ?_)))
    (case side4 => exact (Kd.R_reads' HO108.out).2.1)
    rintro e w95 ⟨rfl, hb⟩
    refine ⟨_, rfl, ?_⟩
    have n0_ := Aside0.mk (Kd.R_below (qzz3_) hb)
    have n1_ := Aside0.mk (blk_below (g := gb101) (o := .cells #[.slice A0_0 l0_0.length c0_0, .int .i64 a0_1] 24 (0, 0)) (qzz2_) hb)
    have n2_ := Aside0.mk (below_step (qzz0_) hb)
    clear HO108
    clear BK101
    clear HB
    have HO108 := n0_
    have BK101 := n1_
    have HB := n2_
    clear n0_ n1_ n2_
    (try clear hb)
    (try clear hb2)
    (try clear hk)
    (try clear hi)
    refine hK.out _ _ ⟨(blk_cell BK101.out 0).trans rfl, (blk_cell BK101.out 1).trans rfl⟩ (fun hHeld => ?_)
    clear hK K
    refine norm_ (a' := ?_) ?_ ?_
    rotate_left
    ·
     show Act.put _ (some 39) _ = _
     simp only [Act.put, List.setIfInBounds_toArray, List.set_cons_zero, List.set_cons_succ, i64_w, i32_w]
     rfl
    refine pure_ (i := 4) (N := some 35) (v := ?_) (a' := ?_) #[true, true, true, true, true, false, false, false, false] rfl rfl (any_of HT_.out (by kernel_rfl)) (fun _ _ _ h => h) (Or.inl ⟨by rfl, ?_⟩) ?_ ?_
    rotate_left
    exact qzz21_
    rotate_left
    exact qzz22_
    refine pure_ (i := 5) (N := some 40) (v := ?_) (a' := ?_) #[true, true, true, true, true, true, false, false, false] rfl rfl (any_of HT_.out (by kernel_rfl)) (fun _ _ _ h => h) (Or.inl ⟨by rfl, ?_⟩) ?_ ?_
    rotate_left
    exact qzz21_
    rotate_left
    exact qzz22_
    refine pure_ (i := 6) (N := some 41) (v := ?_) (a' := ?_) #[true, true, true, true, true, true, true, false, false] rfl rfl (any_of HT_.out (by kernel_rfl)) (fun _ _ _ h => h) (Or.inl ⟨by rfl, ?_⟩) ?_ ?_
    rotate_left
    exact qzz21_
    rotate_left
    exact qzz22_
    refine pure_ (i := 7) (N := some 7) (v := ?_) (a' := ?_) #[true, true, true, true, true, true, true, true, false] rfl rfl (any_of HT_.out (by kernel_rfl)) (fun _ _ _ h => h) (Or.inl ⟨by rfl, ?_⟩) ?_ ?_
    rotate_left
    exact qzz21_
    rotate_left
    exact qzz22_
    refine pure_ (i := 8) (N := some 8) (v := ?_) (a' := ?_) #[true, true, true, true, true, true, true, true, true] rfl rfl (any_of HT_.out (by kernel_rfl)) (fun _ _ _ h => h) (Or.inl ⟨by rfl, ?_⟩) ?_ ?_
    rotate_left
    exact qzz21_
    rotate_left
    exact qzz22_
    refine done_ (done_of HT_.out (by kernel_rfl)) ?_
    try go_wp2
    have n0_ := Aside0.mk (Kd.R_drew HO108.out)
    have n1_ := Aside0.mk (blk_drew BK101.out)
    have n2_ := Aside0.mk (below_drew1 HB.out)
    clear HO108
    clear BK101
    clear HB
    have HO108 := n0_
    have BK101 := n1_
    have HB := n2_
    clear n0_ n1_ n2_
    refine start_ (n := 12) (S := fun w' => w'.cell? ⟨gb101, 0, none⟩ = some (.slice A0_0 l0_0.length c0_0) ∧ w'.cell? ⟨gb101, 1, none⟩ = some (.int .i64 a0_1)) (ds := []) #[false, false, false, false, false, false, false, false, false, false, false, false] (by kernel_rfl) rfl rfl ⟨(blk_cell BK101.out 0).trans rfl, (blk_cell BK101.out 1).trans rfl⟩ (fun hHeld => ?_); refine with_tabW grommetlaw16_PathOn.tab4 grommetlaw16_PathOn.bits4 (fun HT_ HW_ => ?_)
    generalize w95.drew = w96 at HO108 BK101 HB hHeld ⊢
    refine pure_ (i := 1) (N := some 44) (v := ?_) (a' := ?_) #[false, true, false, false, false, false, false, false, false, false, false, false] rfl rfl (any_of HT_.out (by kernel_rfl)) (fun _ _ _ h => h) (Or.inl ⟨by rfl, ?_⟩) ?_ ?_
    rotate_left
    exact qzz21_
    rotate_left
    exact qzz22_
    refine pure_ (i := 3) (N := some 46) (v := ?_) (a' := ?_) #[false, true, false, true, false, false, false, false, false, false, false, false] rfl rfl (any_of HT_.out (by kernel_rfl)) (fun _ _ _ h => h) (Or.inl ⟨by rfl, ?_⟩) ?_ ?_
    rotate_left
    exact qzz21_
    rotate_left
    exact qzz22_
    refine take_ (i := 0) (N := some 43) (v := ?_) (a' := ?_) #[true, true, false, true, false, false, false, false, false, false, false, false] rfl rfl (take_ofW HT_.out HW_.out (by kernel_rfl)) (fun _ _ _ h => h) (Or.inl ⟨by rfl, ?_⟩) hHeld ?_ ?_
    rotate_left
    exact qzz23_
    rotate_left
    exact qzz22_
    refine one_ (i := 2) (N := some 45) #[true, true, true, true, false, false, false, false, false, false, false, false] rfl rfl (one_of HT_.out (by kernel_rfl)) (by decide) (fun K hK => ?_)
    refine Kd.R_append_rows_step k58 (w0 := w) w.heap.size (by rfl) (.const (.slice none 0 0)) (.tmp 44) 47 58 (.agg #[(.string ⟨#[]⟩), (.int .i64 0), (.bool false)]) 32 rfl Tryz.underlying47 info58 rfl (by decide) (by omega) (.slice none 0 0) ([] : List (S58)) l1 _ _ _ (fun _ => True) (fun _ => False) rfl rfl ?aO ?aR (fun _ _ h => h) (fun _ h => h.elim) ?aF ?aB ?aS ?aL ?_
    (case aR => repeat (first | exact (Kd.C_below HR1.out HB.out) | (with_reducible refine Kd.C_alloc ?_ _) | (with_reducible refine Kd.C_drewN ?_ _) | (with_reducible refine Kd.C_drew ?_)))
    (case aB => exact (qzz0_))
    (case aF => exact (fun _ _ => trivial))
    (case aO => exact ((Kd.R_nil _ _ _ _ (fun _ => True))))
    (case aS => exact (below_size (qzz0_)))
    (case aL => have := LMc30.out; omega)
    intro v112 w97 ho hb hg hat
    rw [← Ny111.out] at ho
    have n0_ := Aside0.mk (blk_grown (g := gb101) (o := .cells #[.slice A0_0 l0_0.length c0_0, .int .i64 a0_1] 24 (0, 0)) (qzz2_) hg (by simp [Value.ownBlock]))
    have n1_ := Aside0.mk (Kd.R_grown (qzz3_) hg (fun _ _ => by simp [Value.ownBlock]))
    have n2_ := Aside0.mk (hb)
    have n3_ := Aside0.mk (ho)
    clear BK101
    clear HO108
    clear HB
    have BK101 := n0_
    have HO108 := n1_
    have HB := n2_
    have HO113 := n3_
    clear n0_ n1_ n2_ n3_
    clear ho hb hg hat
    refine hK.out _ _ ⟨(blk_cell BK101.out 0).trans rfl, (blk_cell BK101.out 1).trans rfl⟩ (fun hHeld => ?_)
    clear hK K
    refine norm_ (a' := ?_) ?_ ?_
    rotate_left
    ·
     show Act.put _ (some 45) _ = _
     simp only [Act.put, List.setIfInBounds_toArray, List.set_cons_zero, List.set_cons_succ, i64_w, i32_w]
     rfl
    refine one_ (i := 4) (N := some 47) #[true, true, true, true, true, false, false, false, false, false, false, false] rfl rfl (one_of HT_.out (by kernel_rfl)) (by decide) (fun K hK => ?_)
    refine Kd.R_append_rows_step k58 (w0 := w) w.heap.size (by rfl) (.tmp 45) (.tmp 46) 47 58 (.agg #[(.string ⟨#[]⟩), (.int .i64 0), (.bool false)]) 32 rfl Tryz.underlying47 info58 rfl (by decide) (by omega) v112 y111 l2 _ _ _ (fun _ => True) (fun _ => False) rfl rfl ?aO ?aR (fun _ _ h => h) (fun _ h => h.elim) ?aF ?aB ?aS ?aL ?_
    (case aR => repeat (first | exact (Kd.C_below HR2.out HB.out) | (with_reducible refine Kd.C_alloc ?_ _) | (with_reducible refine Kd.C_drewN ?_ _) | (with_reducible refine Kd.C_drew ?_)))
    (case aB => exact (qzz0_))
    (case aF => exact (fun _ _ => trivial))
    (case aO => exact (qzz10_))
    (case aS => exact (below_size (qzz0_)))
    (case aL => have := LMc31.out; omega)
    intro v115 w98 ho hb hg hat
    rw [← Ny114.out] at ho
    have n0_ := Aside0.mk (blk_grown (g := gb101) (o := .cells #[.slice A0_0 l0_0.length c0_0, .int .i64 a0_1] 24 (0, 0)) (qzz2_) hg (Kd.R_ne HO113.out BK101.out (by decide)))
    have n1_ := Aside0.mk (Kd.R_over' (qzz3_) (Kd.R_typed (qzz10_)) (by decide) hg)
    have n2_ := Aside0.mk (hb)
    have n3_ := Aside0.mk (ho)
    clear BK101
    clear HO108
    clear HB
    clear HO113
    have BK101 := n0_
    have HO108 := n1_
    have HB := n2_
    have HO116 := n3_
    clear n0_ n1_ n2_ n3_
    clear ho hb hg hat
    obtain ⟨Ao99, co99, eo99⟩ := Kd.R_slice HO116.out
    (first | subst eo99 | (injection eo99 with f1_ f2_ f3_; have f4_ := f1_.symm; have f5_ := f3_.symm; clear f1_ f2_ f3_; subst f4_; subst f5_))
    refine hK.out _ _ ⟨(blk_cell BK101.out 0).trans rfl, (blk_cell BK101.out 1).trans rfl⟩ (fun hHeld => ?_)
    clear hK K
    refine norm_ (a' := ?_) ?_ ?_
    rotate_left
    ·
     show Act.put _ (some 47) _ = _
     simp only [Act.put, List.setIfInBounds_toArray, List.set_cons_zero, List.set_cons_succ, i64_w, i32_w]
     rfl
    refine one_ (i := 5) (N := some 48) #[true, true, true, true, true, true, false, false, false, false, false, false] rfl rfl (one_of HT_.out (by kernel_rfl)) (by decide) (fun K hK => ?_)
    refine goes_ Tryz.func26 (by kernel_rfl) rfl #[.slice Ao99 y114.length co99] (by rfl) rfl rfl (qzz4_) ?_
    with_reducible refine (grommetlaw16_theirs.calls kj3 _ _ y114 t117 _ ?side1 ?side2 (hG.below (qzz1_)) A32.out).mono ?_
    (case side1 => repeat (first | exact (Kd.R_reads' HO116.out).2.2 | (with_reducible refine Kd.C_alloc ?_ _) | (with_reducible refine Kd.C_drewN ?_ _) | (with_reducible refine Kd.C_drew ?_)))
    (case side2 => exact (Kd.R_reads' HO116.out).2.1)
    rintro e w100 ⟨v118, rfl, ho0, hb⟩
    refine ⟨_, rfl, ?_⟩
    have n0_ := Aside0.mk (Kd.R_elder' (qzz3_) (Kd.R_base ho0) hb)
    have n1_ := Aside0.mk (Kd.R_below (qzz6_) hb)
    have n2_ := Aside0.mk (Kd.R_lower (Kd.R_new' ho0 (Kd.R_lt (qzz3_))) (below_size (qzz0_)))
    have n3_ := Aside0.mk (blk_below (g := gb101) (o := .cells #[.slice A0_0 l0_0.length c0_0, .int .i64 a0_1] 24 (0, 0)) (qzz2_) hb)
    have n4_ := Aside0.mk (below_step (qzz0_) hb)
    clear HO108
    clear HO116
    clear BK101
    clear HB
    have HO108 := n0_
    have HO116 := n1_
    have HO119 := n2_
    have BK101 := n3_
    have HB := n4_
    clear n0_ n1_ n2_ n3_ n4_
    (try clear hb)
    (try clear hb2)
    (try clear hk)
    (try clear hi)
    (try clear ho0)
    obtain ⟨Ao101, co101, eo101⟩ := Kd.R_slice HO119.out
    (first | subst eo101 | (injection eo101 with f1_ f2_ f3_; have f4_ := f1_.symm; have f5_ := f3_.symm; clear f1_ f2_ f3_; subst f4_; subst f5_))
    refine hK.out _ _ ⟨(blk_cell BK101.out 0).trans rfl, (blk_cell BK101.out 1).trans rfl⟩ (fun hHeld => ?_)
    clear hK K
    refine norm_ (a' := ?_) ?_ ?_
    rotate_left
    ·
     show Act.put _ (some 48) _ = _
     simp only [Act.put, List.setIfInBounds_toArray, List.set_cons_zero, List.set_cons_succ, i64_w, i32_w]
     rfl
    refine one_ (i := 6) (N := some 49) #[true, true, true, true, true, true, true, false, false, false, false, false] rfl rfl (one_of HT_.out (by kernel_rfl)) (by decide) (fun K hK => ?_)
    refine goes_ Tryz.func25 (by kernel_rfl) rfl #[.agg #[.slice A0_0 l0_0.length c0_0, .int .i64 a0_1], .slice Ao101 t117.length co101] (by rfl) rfl rfl (qzz4_) ?_
    with_reducible refine (path_Get.calls kj3 _ _ l0_0 a0_1 _ _ t117 t120 t121 _ ?side1 ?side2 ?side3 ?side4 (hG.below (qzz1_)) A33.out).mono ?_
    (case side1 => repeat (first | exact (Kd.C_below HR0_0.out HB.out) | (with_reducible refine Kd.C_alloc ?_ _) | (with_reducible refine Kd.C_drewN ?_ _) | (with_reducible refine Kd.C_drew ?_)))
    (case side2 => exact HC0_0.out)
    (case side3 => repeat (first | exact (Kd.R_reads' HO119.out).2.2 | (with_reducible refine Kd.C_alloc ?_ _) | (with_reducible refine Kd.C_drewN ?_ _) | (with_reducible refine Kd.C_drew ?_)))
    (case side4 => exact (Kd.R_reads' HO119.out).2.1)
    rintro e w102 ⟨rfl, hb⟩
    refine ⟨_, rfl, ?_⟩
    have n0_ := Aside0.mk (Kd.R_below (qzz3_) hb)
    have n1_ := Aside0.mk (Kd.R_below (qzz6_) hb)
    have n2_ := Aside0.mk (Kd.R_below (qzz5_) hb)
    have n3_ := Aside0.mk (blk_below (g := gb101) (o := .cells #[.slice A0_0 l0_0.length c0_0, .int .i64 a0_1] 24 (0, 0)) (qzz2_) hb)
    have n4_ := Aside0.mk (below_step (qzz0_) hb)
    clear HO108
    clear HO116
    clear HO119
    clear BK101
    clear HB
    have HO108 := n0_
    have HO116 := n1_
    have HO119 := n2_
    have BK101 := n3_
    have HB := n4_
    clear n0_ n1_ n2_ n3_ n4_
    (try clear hb)
    (try clear hb2)
    (try clear hk)
    (try clear hi)
    refine hK.out _ _ ⟨(blk_cell BK101.out 0).trans rfl, (blk_cell BK101.out 1).trans rfl⟩ (fun hHeld => ?_)
    clear hK K
    refine norm_ (a' := ?_) ?_ ?_
    rotate_left
    ·
     show Act.put _ (some 49) _ = _
     simp only [Act.put, List.setIfInBounds_toArray, List.set_cons_zero, List.set_cons_succ, i64_w, i32_w]
     rfl
    refine pure_ (i := 7) (N := some 42) (v := ?_) (a' := ?_) #[true, true, true, true, true, true, true, true, false, false, false, false] rfl rfl (any_of HT_.out (by kernel_rfl)) (fun _ _ _ h => h) (Or.inl ⟨by rfl, ?_⟩) ?_ ?_
    rotate_left
    exact qzz21_
    rotate_left
    exact qzz22_
    refine pure_ (i := 8) (N := some 50) (v := ?_) (a' := ?_) #[true, true, true, true, true, true, true, true, true, false, false, false] rfl rfl (any_of HT_.out (by kernel_rfl)) (fun _ _ _ h => h) (Or.inl ⟨by rfl, ?_⟩) ?_ ?_
    rotate_left
    exact qzz21_
    rotate_left
    exact qzz22_
    refine pure_ (i := 9) (N := some 51) (v := ?_) (a' := ?_) #[true, true, true, true, true, true, true, true, true, true, false, false] rfl rfl (any_of HT_.out (by kernel_rfl)) (fun _ _ _ h => h) (Or.inl ⟨by rfl, ?_⟩) ?_ ?_
    rotate_left
    exact qzz21_
    rotate_left
    exact qzz22_
    refine pure_ (i := 10) (N := some 9) (v := ?_) (a' := ?_) #[true, true, true, true, true, true, true, true, true, true, true, false] rfl rfl (any_of HT_.out (by kernel_rfl)) (fun _ _ _ h => h) (Or.inl ⟨by rfl, ?_⟩) ?_ ?_
    rotate_left
    exact qzz21_
    rotate_left
    exact qzz22_
    refine pure_ (i := 11) (N := some 10) (v := ?_) (a' := ?_) #[true, true, true, true, true, true, true, true, true, true, true, true] rfl rfl (any_of HT_.out (by kernel_rfl)) (fun _ _ _ h => h) (Or.inl ⟨by rfl, ?_⟩) ?_ ?_
    rotate_left
    exact qzz21_
    rotate_left
    exact qzz22_
    refine done_ (done_of HT_.out (by kernel_rfl)) ?_
    try go_wp2_with (first | ((with_reducible refine gate_callee (f := 26) rfl ?_); refine goesL_ (some 54) rfl rfl Tryz.func26 (by kernel_rfl) rfl #[.slice A2 l2.length c2] rfl (qzz4_) ?_; (with_reducible refine (grommetlaw16_theirs.calls kj3 _ _ l2 t122 _ ?side1 ?side2 (hG.below (qzz1_)) A34.out).mono ?_); (case side1 => repeat (first | exact (Kd.C_below HR2.out HB.out) | (with_reducible refine Kd.C_alloc ?_ _) | (with_reducible refine Kd.C_drewN ?_ _) | (with_reducible refine Kd.C_drew ?_))); (case side2 => exact HC2.out); rintro e w103 ⟨v123, rfl, ho0, hb⟩; refine ⟨_, rfl, ?_⟩; have n0_ := Aside0.mk (Kd.R_elder' (qzz3_) (Kd.R_base ho0) hb); have n1_ := Aside0.mk (Kd.R_below (qzz6_) hb); have n2_ := Aside0.mk (Kd.R_elder' (qzz5_) (Kd.R_base ho0) hb); have n3_ := Aside0.mk (Kd.R_lower (Kd.R_new' (Kd.R_new' ho0 (Kd.R_lt (qzz3_))) (Kd.R_lt (qzz5_))) (below_size (qzz0_))); have n4_ := Aside0.mk (blk_below (g := gb101) (o := .cells #[.slice A0_0 l0_0.length c0_0, .int .i64 a0_1] 24 (0, 0)) (qzz2_) hb); have n5_ := Aside0.mk (below_step (qzz0_) hb); clear HO108; clear HO116; clear HO119; clear BK101; clear HB; have HO108 := n0_; have HO116 := n1_; have HO119 := n2_; have HO124 := n3_; have BK101 := n4_; have HB := n5_; clear n0_ n1_ n2_ n3_ n4_ n5_; (try clear hb); (try clear hk); (try clear ho0); obtain ⟨Ao104, co104, eo104⟩ := Kd.R_slice HO124.out; subst eo104) | ((with_reducible refine gate_callee (f := 28) rfl ?_); refine goesL_ (some 55) rfl rfl Tryz.func28 (by kernel_rfl) rfl #[.slice Ao104 t122.length co104] rfl (qzz4_) ?_; (with_reducible refine (path_Format.calls _ _ t122 t125 t126 _ ?side1 ?side2 (hG.below (qzz1_)) A35.out).mono ?_); (case side1 => repeat (first | exact (Kd.R_reads' HO124.out).2.2 | (with_reducible refine Kd.C_alloc ?_ _) | (with_reducible refine Kd.C_drewN ?_ _) | (with_reducible refine Kd.C_drew ?_))); (case side2 => exact (Kd.R_reads' HO124.out).2.1); rintro e w105 ⟨rfl, hb⟩; refine ⟨_, rfl, ?_⟩; have n0_ := Aside0.mk (Kd.R_below (qzz3_) hb); have n1_ := Aside0.mk (Kd.R_below (qzz6_) hb); have n2_ := Aside0.mk (Kd.R_below (qzz5_) hb); have n3_ := Aside0.mk (Kd.R_below (qzz8_) hb); have n4_ := Aside0.mk (blk_below (g := gb101) (o := .cells #[.slice A0_0 l0_0.length c0_0, .int .i64 a0_1] 24 (0, 0)) (qzz2_) hb); have n5_ := Aside0.mk (below_step (qzz0_) hb); clear HO108; clear HO116; clear HO119; clear HO124; clear BK101; clear HB; have HO108 := n0_; have HO116 := n1_; have HO119 := n2_; have HO124 := n3_; have BK101 := n4_; have HB := n5_; clear n0_ n1_ n2_ n3_ n4_ n5_; (try clear hb); (try clear hk); have hcz106_0 : w105.cell? ⟨gb101, 0, none⟩ = some (.slice A0_0 l0_0.length c0_0) := (blk_cell BK101.out 0).trans rfl; have hcz106_1 : w105.cell? ⟨gb101, 1, none⟩ = some (.int .i64 a0_1) := (blk_cell BK101.out 1).trans rfl; have hfz106_0 := blk_frozen BK101.out 0; have hfz106_1 := blk_frozen BK101.out 1) | ((with_reducible refine gate_dst (N := 13) rfl ?_); (try (refine gate_guard (by rfl) ?_; dsimp only)); refine box_event ?hg (N := 13) ?hd (cs := #[.slice none 0 0, .int .i64 0]) (t := 24) ?hr ?_; (case hd => rfl); (case hg => rfl); (case hr => first | (go_simp; done) | (go_simp; rfl)); intro gb129 hg w107 hbox hb; have n0_ := Aside0.mk (Kd.R_below (qzz3_) hb); have n1_ := Aside0.mk (Kd.R_below (qzz6_) hb); have n2_ := Aside0.mk (Kd.R_below (qzz5_) hb); have n3_ := Aside0.mk (Kd.R_below (qzz8_) hb); have n4_ := Aside0.mk (blk_below (g := gb101) (o := .cells #[.slice A0_0 l0_0.length c0_0, .int .i64 a0_1] 24 (0, 0)) (qzz2_) hb); have n5_ := Aside0.mk (below_step (qzz0_) hb); have n6_ := Aside0.mk (hbox); have n7_ := Aside0.mk ((by rw [hg]; exact (below_size (qzz0_)) : w.heap.size ≤ gb129)); have n8_ := Aside0.mk ((by rw [hg]; exact (below_size (qzz0_)) : w.heap.size ≤ gb129)); have n9_ := Aside0.mk ((by rw [hg]; exact Nat.ne_of_lt (blk_lt (g := gb101) (o := .cells #[.slice A0_0 l0_0.length c0_0, .int .i64 a0_1] 24 (0, 0)) (qzz2_)) : gb101 ≠ gb129)); have n10_ := Aside0.mk ((by rw [hg]; exact Nat.ne_of_gt (blk_lt (g := gb101) (o := .cells #[.slice A0_0 l0_0.length c0_0, .int .i64 a0_1] 24 (0, 0)) (qzz2_)) : gb129 ≠ gb101)); clear HO108; clear HO116; clear HO119; clear HO124; clear BK101; clear HB; have HO108 := n0_; have HO116 := n1_; have HO119 := n2_; have HO124 := n3_; have BK101 := n4_; have HB := n5_; have BK129 := n6_; have GW129 := n7_; have GE129 := n8_; have NB101_129 := n9_; have NB129_101 := n10_; clear n0_ n1_ n2_ n3_ n4_ n5_ n6_ n7_ n8_ n9_ n10_; clear hb hbox hg; have hnb108 := NB129_101.out; have hnc108 := NB101_129.out; have hcz109_0 : w107.cell? ⟨gb129, 0, none⟩ = some (.slice none 0 0) := (blk_cell BK129.out 0).trans rfl; have hcz109_1 : w107.cell? ⟨gb129, 1, none⟩ = some (.int .i64 0) := (blk_cell BK129.out 1).trans rfl; have hfz109_0 := blk_frozen BK129.out 0; have hfz109_1 := blk_frozen BK129.out 1; have hput_ : (((w107.setCell ⟨gb129, 0, none⟩ (.slice A0_0 l0_0.length c0_0)).setCell ⟨gb129, 1, none⟩ (.int .i64 a0_1)).setCell ⟨gb129, 1, none⟩ (.int .i64 t109)).cell? ⟨gb129, 1, none⟩ = some (.int .i64 t109) := (blk_cell (blk_put (blk_put (blk_put BK129.out 0 _ rfl) 1 _ rfl) 1 _ rfl) 1).trans rfl) | ((with_reducible refine gate_callee (f := 29) rfl ?_); refine goesL_ (some 85) rfl rfl Tryz.func29 (by kernel_rfl) rfl #[.agg #[.slice A0_0 l0_0.length c0_0, .int .i64 t109]] rfl (qzz4_) ?_; (with_reducible refine (graph_Right.calls _ _ l0_0 t109 true _ ?side1 ?side2 (hG.below (qzz1_)) A38.out).mono ?_); (case side1 => exact Kd.C_below HR0_0.out (qzz7_)); (case side2 => exact HC0_0.out); rintro e w110 ⟨rfl, hb⟩; refine ⟨_, rfl, ?_⟩; have n0_ := Aside0.mk (Kd.R_below (qzz15_) hb); have n1_ := Aside0.mk (Kd.R_below (qzz14_) hb); have n2_ := Aside0.mk (Kd.R_below (qzz13_) hb); have n3_ := Aside0.mk (Kd.R_below (qzz12_) hb); have n4_ := Aside0.mk (blk_below (g := gb101) (o := .cells #[.slice A0_0 l0_0.length c0_0, .int .i64 a0_1] 24 (0, 0)) (qzz11_) hb); have n5_ := Aside0.mk (blk_below (g := gb129) (o := .cells #[.slice A0_0 l0_0.length c0_0, .int .i64 t109] 24 (0, 0)) (qzz9_) hb); have n6_ := Aside0.mk (below_step (qzz7_) hb); clear HO108; clear HO116; clear HO119; clear HO124; clear BK101; clear BK129; clear HB; have HO108 := n0_; have HO116 := n1_; have HO119 := n2_; have HO124 := n3_; have BK101 := n4_; have BK129 := n5_; have HB := n6_; clear n0_ n1_ n2_ n3_ n4_ n5_ n6_; (try clear hb); (try clear hk)))
    have n0_ := Aside0.mk (Kd.R_drew HO108.out)
    have n1_ := Aside0.mk (Kd.R_drew HO116.out)
    have n2_ := Aside0.mk (Kd.R_drew HO119.out)
    have n3_ := Aside0.mk (Kd.R_drew HO124.out)
    have n4_ := Aside0.mk (blk_drew BK101.out)
    have n5_ := Aside0.mk (blk_drew BK129.out)
    have n6_ := Aside0.mk (below_drew1 HB.out)
    clear HO108
    clear HO116
    clear HO119
    clear HO124
    clear BK101
    clear BK129
    clear HB
    have HO108 := n0_
    have HO116 := n1_
    have HO119 := n2_
    have HO124 := n3_
    have BK101 := n4_
    have BK129 := n5_
    have HB := n6_
    clear n0_ n1_ n2_ n3_ n4_ n5_ n6_
    refine start_ (n := 9) (S := fun w' => w'.cell? ⟨gb129, 0, none⟩ = some (.slice A0_0 l0_0.length c0_0) ∧ w'.cell? ⟨gb129, 1, none⟩ = some (.int .i64 t109)) (ds := []) #[false, false, false, false, false, false, false, false, false] (by kernel_rfl) rfl rfl ⟨(blk_cell BK129.out 0).trans rfl, (blk_cell BK129.out 1).trans rfl⟩ (fun hHeld => ?_); refine with_tabW grommetlaw16_PathOn.tab14 grommetlaw16_PathOn.bits14 (fun HT_ HW_ => ?_)
    generalize w110.drew = w111 at HO108 HO116 HO119 HO124 BK101 BK129 HB hHeld ⊢
    refine pure_ (i := 1) (N := some 89) (v := ?_) (a' := ?_) #[false, true, false, false, false, false, false, false, false] rfl rfl (any_of HT_.out (by kernel_rfl)) (fun _ _ _ h => h) (Or.inl ⟨by rfl, ?_⟩) ?_ ?_
    rotate_left
    exact qzz21_
    rotate_left
    exact qzz22_
    refine take_ (i := 0) (N := some 88) (v := ?_) (a' := ?_) #[true, true, false, false, false, false, false, false, false] rfl rfl (take_ofW HT_.out HW_.out (by kernel_rfl)) (fun _ _ _ h => h) (Or.inl ⟨by rfl, ?_⟩) hHeld ?_ ?_
    rotate_left
    exact qzz23_
    rotate_left
    exact qzz22_
    refine one_ (i := 2) (N := some 90) #[true, true, true, false, false, false, false, false, false] rfl rfl (one_of HT_.out (by kernel_rfl)) (by decide) (fun K hK => ?_)
    refine goes_ Tryz.func26 (by kernel_rfl) rfl #[.slice A2 l2.length c2] (by rfl) rfl rfl (qzz4_) ?_
    with_reducible refine (grommetlaw16_theirs.calls kj3 _ _ l2 t131 _ ?side1 ?side2 (hG.below (qzz1_)) A40.out).mono ?_
    (case side1 => repeat (first | exact (Kd.C_below HR2.out HB.out) | (with_reducible refine Kd.C_alloc ?_ _) | (with_reducible refine Kd.C_drewN ?_ _) | (with_reducible refine Kd.C_drew ?_)))
    (case side2 => exact HC2.out)
    rintro e w112 ⟨v132, rfl, ho0, hb⟩
    refine ⟨_, rfl, ?_⟩
    have n0_ := Aside0.mk (Kd.R_elder' (qzz3_) (Kd.R_base ho0) hb)
    have n1_ := Aside0.mk (Kd.R_below (qzz6_) hb)
    have n2_ := Aside0.mk (Kd.R_elder' (qzz5_) (Kd.R_base ho0) hb)
    have n3_ := Aside0.mk (Kd.R_elder' (qzz8_) (Kd.R_base ho0) hb)
    have n4_ := Aside0.mk (Kd.R_lower (Kd.R_new' (Kd.R_new' (Kd.R_new' ho0 (Kd.R_lt (qzz3_))) (Kd.R_lt (qzz5_))) (Kd.R_lt (qzz8_))) (below_size (qzz7_)))
    have n5_ := Aside0.mk (blk_below (g := gb101) (o := .cells #[.slice A0_0 l0_0.length c0_0, .int .i64 a0_1] 24 (0, 0)) (qzz2_) hb)
    have n6_ := Aside0.mk (blk_below (g := gb129) (o := .cells #[.slice A0_0 l0_0.length c0_0, .int .i64 t109] 24 (0, 0)) (qzz17_) hb)
    have n7_ := Aside0.mk (below_step (qzz7_) hb)
    clear HO108
    clear HO116
    clear HO119
    clear HO124
    clear BK101
    clear BK129
    clear HB
    have HO108 := n0_
    have HO116 := n1_
    have HO119 := n2_
    have HO124 := n3_
    have HO133 := n4_
    have BK101 := n5_
    have BK129 := n6_
    have HB := n7_
    clear n0_ n1_ n2_ n3_ n4_ n5_ n6_ n7_
    (try clear hb)
    (try clear hb2)
    (try clear hk)
    (try clear hi)
    (try clear ho0)
    obtain ⟨Ao113, co113, eo113⟩ := Kd.R_slice HO133.out
    (first | subst eo113 | (injection eo113 with f1_ f2_ f3_; have f4_ := f1_.symm; have f5_ := f3_.symm; clear f1_ f2_ f3_; subst f4_; subst f5_))
    refine hK.out _ _ ⟨(blk_cell BK129.out 0).trans rfl, (blk_cell BK129.out 1).trans rfl⟩ (fun hHeld => ?_)
    clear hK K
    refine norm_ (a' := ?_) ?_ ?_
    rotate_left
    ·
     show Act.put _ (some 90) _ = _
     simp only [Act.put, List.setIfInBounds_toArray, List.set_cons_zero, List.set_cons_succ, i64_w, i32_w]
     rfl
    refine one_ (i := 3) (N := some 91) #[true, true, true, true, false, false, false, false, false] rfl rfl (one_of HT_.out (by kernel_rfl)) (by decide) (fun K hK => ?_)
    refine goes_ Tryz.func25 (by kernel_rfl) rfl #[.agg #[.slice A0_0 l0_0.length c0_0, .int .i64 t109], .slice Ao113 t131.length co113] (by rfl) rfl rfl (qzz4_) ?_
    with_reducible refine (path_Get.calls kj3 _ _ l0_0 t109 _ _ t131 t134 t135 _ ?side1 ?side2 ?side3 ?side4 (hG.below (qzz1_)) A41.out).mono ?_
    (case side1 => repeat (first | exact (Kd.C_below HR0_0.out HB.out) | (with_reducible refine Kd.C_alloc ?_ _) | (with_reducible refine Kd.C_drewN ?_ _) | (with_reducible refine Kd.C_drew ?_)))
    (case side2 => exact HC0_0.out)
    (case side3 => repeat (first | exact (Kd.R_reads' HO133.out).2.2 | (with_reducible refine Kd.C_alloc ?_ _) | (with_reducible refine Kd.C_drewN ?_ _) | (with_reducible refine Kd.C_drew ?_)))
    (case side4 => exact (Kd.R_reads' HO133.out).2.1)
    rintro e w114 ⟨rfl, hb⟩
    refine ⟨_, rfl, ?_⟩
    have n0_ := Aside0.mk (Kd.R_below (qzz3_) hb)
    have n1_ := Aside0.mk (Kd.R_below (qzz6_) hb)
    have n2_ := Aside0.mk (Kd.R_below (qzz5_) hb)
    have n3_ := Aside0.mk (Kd.R_below (qzz8_) hb)
    have n4_ := Aside0.mk (Kd.R_below (qzz18_) hb)
    have n5_ := Aside0.mk (blk_below (g := gb101) (o := .cells #[.slice A0_0 l0_0.length c0_0, .int .i64 a0_1] 24 (0, 0)) (qzz2_) hb)
    have n6_ := Aside0.mk (blk_below (g := gb129) (o := .cells #[.slice A0_0 l0_0.length c0_0, .int .i64 t109] 24 (0, 0)) (qzz17_) hb)
    have n7_ := Aside0.mk (below_step (qzz7_) hb)
    clear HO108
    clear HO116
    clear HO119
    clear HO124
    clear HO133
    clear BK101
    clear BK129
    clear HB
    have HO108 := n0_
    have HO116 := n1_
    have HO119 := n2_
    have HO124 := n3_
    have HO133 := n4_
    have BK101 := n5_
    have BK129 := n6_
    have HB := n7_
    clear n0_ n1_ n2_ n3_ n4_ n5_ n6_ n7_
    (try clear hb)
    (try clear hb2)
    (try clear hk)
    (try clear hi)
    refine hK.out _ _ ⟨(blk_cell BK129.out 0).trans rfl, (blk_cell BK129.out 1).trans rfl⟩ (fun hHeld => ?_)
    clear hK K
    refine norm_ (a' := ?_) ?_ ?_
    rotate_left
    ·
     show Act.put _ (some 91) _ = _
     simp only [Act.put, List.setIfInBounds_toArray, List.set_cons_zero, List.set_cons_succ, i64_w, i32_w]
     rfl
    refine pure_ (i := 4) (N := some 87) (v := ?_) (a' := ?_) #[true, true, true, true, true, false, false, false, false] rfl rfl (any_of HT_.out (by kernel_rfl)) (fun _ _ _ h => h) (Or.inl ⟨by rfl, ?_⟩) ?_ ?_
    rotate_left
    exact qzz21_
    rotate_left
    exact qzz22_
    refine pure_ (i := 5) (N := some 92) (v := ?_) (a' := ?_) #[true, true, true, true, true, true, false, false, false] rfl rfl (any_of HT_.out (by kernel_rfl)) (fun _ _ _ h => h) (Or.inl ⟨by rfl, ?_⟩) ?_ ?_
    rotate_left
    exact qzz21_
    rotate_left
    exact qzz22_
    refine pure_ (i := 6) (N := some 93) (v := ?_) (a' := ?_) #[true, true, true, true, true, true, true, false, false] rfl rfl (any_of HT_.out (by kernel_rfl)) (fun _ _ _ h => h) (Or.inl ⟨by rfl, ?_⟩) ?_ ?_
    rotate_left
    exact qzz21_
    rotate_left
    exact qzz22_
    refine pure_ (i := 7) (N := some 14) (v := ?_) (a' := ?_) #[true, true, true, true, true, true, true, true, false] rfl rfl (any_of HT_.out (by kernel_rfl)) (fun _ _ _ h => h) (Or.inl ⟨by rfl, ?_⟩) ?_ ?_
    rotate_left
    exact qzz21_
    rotate_left
    exact qzz22_
    refine pure_ (i := 8) (N := some 15) (v := ?_) (a' := ?_) #[true, true, true, true, true, true, true, true, true] rfl rfl (any_of HT_.out (by kernel_rfl)) (fun _ _ _ h => h) (Or.inl ⟨by rfl, ?_⟩) ?_ ?_
    rotate_left
    exact qzz21_
    rotate_left
    exact qzz22_
    refine done_ (done_of HT_.out (by kernel_rfl)) ?_
    try go_wp2
    go_ret
    exact ⟨qzz16_, qzz7_⟩
   rw [if_pos c42] at H
   have c42b0 : (t134 == t120) = true := beq_iff_eq.mpr c42
   have c42b1 : (t134 != t120) = false := bne_eq_false_iff_eq.mpr c42
   clear c42
   by_cases c43 : t135 = t121
   rotate_left
   ·
    rw [if_neg c43] at H
    have c43b0 : (t135 == t121) = false := beq_eq_false_iff_ne.mpr c43
    have c43b1 : (t135 != t121) = true := bne_iff_ne.mpr c43
    obtain rfl := Option.some.inj H
    try go_wp2
    have n0_ := Aside0.mk (blk_drew BK101.out)
    have n1_ := Aside0.mk (below_drew1 HB.out)
    clear BK101
    clear HB
    have BK101 := n0_
    have HB := n1_
    clear n0_ n1_
    refine start_ (n := 9) (S := fun w' => w'.cell? ⟨gb101, 0, none⟩ = some (.slice A0_0 l0_0.length c0_0) ∧ w'.cell? ⟨gb101, 1, none⟩ = some (.int .i64 a0_1)) (ds := []) #[false, false, false, false, false, false, false, false, false] (by kernel_rfl) rfl rfl ⟨(blk_cell BK101.out 0).trans rfl, (blk_cell BK101.out 1).trans rfl⟩ (fun hHeld => ?_); refine with_tabW grommetlaw16_PathOn.tab3 grommetlaw16_PathOn.bits3 (fun HT_ HW_ => ?_)
    generalize wc.drew = w69 at BK101 HB hHeld ⊢
    refine pure_ (i := 1) (N := some 37) (v := ?_) (a' := ?_) #[false, true, false, false, false, false, false, false, false] rfl rfl (any_of HT_.out (by kernel_rfl)) (fun _ _ _ h => h) (Or.inl ⟨by rfl, ?_⟩) ?_ ?_
    rotate_left
    exact qzz21_
    rotate_left
    exact qzz22_
    refine take_ (i := 0) (N := some 36) (v := ?_) (a' := ?_) #[true, true, false, false, false, false, false, false, false] rfl rfl (take_ofW HT_.out HW_.out (by kernel_rfl)) (fun _ _ _ h => h) (Or.inl ⟨by rfl, ?_⟩) hHeld ?_ ?_
    rotate_left
    exact qzz23_
    rotate_left
    exact qzz22_
    refine one_ (i := 2) (N := some 38) #[true, true, true, false, false, false, false, false, false] rfl rfl (one_of HT_.out (by kernel_rfl)) (by decide) (fun K hK => ?_)
    refine goes_ Tryz.func26 (by kernel_rfl) rfl #[.slice A1 l1.length c1] (by rfl) rfl rfl (qzz4_) ?_
    with_reducible refine (grommetlaw16_theirs.calls kj3 _ _ l1 t106 _ ?side1 ?side2 (hG.below (qzz1_)) A28.out).mono ?_
    (case side1 => repeat (first | exact (Kd.C_below HR1.out HB.out) | (with_reducible refine Kd.C_alloc ?_ _) | (with_reducible refine Kd.C_drewN ?_ _) | (with_reducible refine Kd.C_drew ?_)))
    (case side2 => exact HC1.out)
    rintro e w70 ⟨v107, rfl, ho0, hb⟩
    refine ⟨_, rfl, ?_⟩
    have n0_ := Aside0.mk (Kd.R_lower ho0 (below_size (qzz0_)))
    have n1_ := Aside0.mk (blk_below (g := gb101) (o := .cells #[.slice A0_0 l0_0.length c0_0, .int .i64 a0_1] 24 (0, 0)) (qzz2_) hb)
    have n2_ := Aside0.mk (below_step (qzz0_) hb)
    clear BK101
    clear HB
    have HO108 := n0_
    have BK101 := n1_
    have HB := n2_
    clear n0_ n1_ n2_
    (try clear hb)
    (try clear hb2)
    (try clear hk)
    (try clear hi)
    (try clear ho0)
    obtain ⟨Ao71, co71, eo71⟩ := Kd.R_slice HO108.out
    (first | subst eo71 | (injection eo71 with f1_ f2_ f3_; have f4_ := f1_.symm; have f5_ := f3_.symm; clear f1_ f2_ f3_; subst f4_; subst f5_))
    refine hK.out _ _ ⟨(blk_cell BK101.out 0).trans rfl, (blk_cell BK101.out 1).trans rfl⟩ (fun hHeld => ?_)
    clear hK K
    refine norm_ (a' := ?_) ?_ ?_
    rotate_left
    ·
     show Act.put _ (some 38) _ = _
     simp only [Act.put, List.setIfInBounds_toArray, List.set_cons_zero, List.set_cons_succ, i64_w, i32_w]
     rfl
    refine one_ (i := 3) (N := some 39) #[true, true, true, true, false, false, false, false, false] rfl rfl (one_of HT_.out (by kernel_rfl)) (by decide) (fun K hK => ?_)
    refine goes_ Tryz.func25 (by kernel_rfl) rfl #[.agg #[.slice A0_0 l0_0.length c0_0, .int .i64 a0_1], .slice Ao71 t106.length co71] (by rfl) rfl rfl (qzz4_) ?_
    with_reducible refine (path_Get.calls kj3 _ _ l0_0 a0_1 _ _ t106 t109 t110 _ ?side1 ?side2 ?side3 ?side4 (hG.below (qzz1_)) A29.out).mono ?_
    (case side1 => repeat (first | exact (Kd.C_below HR0_0.out HB.out) | (with_reducible refine Kd.C_alloc ?_ _) | (with_reducible refine Kd.C_drewN ?_ _) | (with_reducible refine Kd.C_drew ?_)))
    (case side2 => exact HC0_0.out)
    (case side3 => repeat (first | exact (Kd.R_reads' HO108.out).2.2 | (with_reducible refine Kd.C_alloc ?_ _) | (with_reducible refine Kd.C_drewN ?_ _) | (with_reducible refine Kd.C_drew ?_)))
    (case side4 => exact (Kd.R_reads' HO108.out).2.1)
    rintro e w72 ⟨rfl, hb⟩
    refine ⟨_, rfl, ?_⟩
    have n0_ := Aside0.mk (Kd.R_below (qzz3_) hb)
    have n1_ := Aside0.mk (blk_below (g := gb101) (o := .cells #[.slice A0_0 l0_0.length c0_0, .int .i64 a0_1] 24 (0, 0)) (qzz2_) hb)
    have n2_ := Aside0.mk (below_step (qzz0_) hb)
    clear HO108
    clear BK101
    clear HB
    have HO108 := n0_
    have BK101 := n1_
    have HB := n2_
    clear n0_ n1_ n2_
    (try clear hb)
    (try clear hb2)
    (try clear hk)
    (try clear hi)
    refine hK.out _ _ ⟨(blk_cell BK101.out 0).trans rfl, (blk_cell BK101.out 1).trans rfl⟩ (fun hHeld => ?_)
    clear hK K
    refine norm_ (a' := ?_) ?_ ?_
    rotate_left
    ·
     show Act.put _ (some 39) _ = _
     simp only [Act.put, List.setIfInBounds_toArray, List.set_cons_zero, List.set_cons_succ, i64_w, i32_w]
     rfl
    refine pure_ (i := 4) (N := some 35) (v := ?_) (a' := ?_) #[true, true, true, true, true, false, false, false, false] rfl rfl (any_of HT_.out (by kernel_rfl)) (fun _ _ _ h => h) (Or.inl ⟨by rfl, ?_⟩) ?_ ?_
    rotate_left
    exact qzz21_
    rotate_left
    exact qzz22_
    refine pure_ (i := 5) (N := some 40) (v := ?_) (a' := ?_) #[true, true, true, true, true, true, false, false, false] rfl rfl (any_of HT_.out (by kernel_rfl)) (fun _ _ _ h => h) (Or.inl ⟨by rfl, ?_⟩) ?_ ?_
    rotate_left
    exact qzz21_
    rotate_left
    exact qzz22_
    refine pure_ (i := 6) (N := some 41) (v := ?_) (a' := ?_) #[true, true, true, true, true, true, true, false, false] rfl rfl (any_of HT_.out (by kernel_rfl)) (fun _ _ _ h => h) (Or.inl ⟨by rfl, ?_⟩) ?_ ?_
    rotate_left
    exact qzz21_
    rotate_left
    exact qzz22_
    refine pure_ (i := 7) (N := some 7) (v := ?_) (a' := ?_) #[true, true, true, true, true, true, true, true, false] rfl rfl (any_of HT_.out (by kernel_rfl)) (fun _ _ _ h => h) (Or.inl ⟨by rfl, ?_⟩) ?_ ?_
    rotate_left
    exact qzz21_
    rotate_left
    exact qzz22_
    refine pure_ (i := 8) (N := some 8) (v := ?_) (a' := ?_) #[true, true, true, true, true, true, true, true, true] rfl rfl (any_of HT_.out (by kernel_rfl)) (fun _ _ _ h => h) (Or.inl ⟨by rfl, ?_⟩) ?_ ?_
    rotate_left
    exact qzz21_
    rotate_left
    exact qzz22_
    refine done_ (done_of HT_.out (by kernel_rfl)) ?_
    try go_wp2
    have n0_ := Aside0.mk (Kd.R_drew HO108.out)
    have n1_ := Aside0.mk (blk_drew BK101.out)
    have n2_ := Aside0.mk (below_drew1 HB.out)
    clear HO108
    clear BK101
    clear HB
    have HO108 := n0_
    have BK101 := n1_
    have HB := n2_
    clear n0_ n1_ n2_
    refine start_ (n := 12) (S := fun w' => w'.cell? ⟨gb101, 0, none⟩ = some (.slice A0_0 l0_0.length c0_0) ∧ w'.cell? ⟨gb101, 1, none⟩ = some (.int .i64 a0_1)) (ds := []) #[false, false, false, false, false, false, false, false, false, false, false, false] (by kernel_rfl) rfl rfl ⟨(blk_cell BK101.out 0).trans rfl, (blk_cell BK101.out 1).trans rfl⟩ (fun hHeld => ?_); refine with_tabW grommetlaw16_PathOn.tab4 grommetlaw16_PathOn.bits4 (fun HT_ HW_ => ?_)
    generalize w72.drew = w73 at HO108 BK101 HB hHeld ⊢
    refine pure_ (i := 1) (N := some 44) (v := ?_) (a' := ?_) #[false, true, false, false, false, false, false, false, false, false, false, false] rfl rfl (any_of HT_.out (by kernel_rfl)) (fun _ _ _ h => h) (Or.inl ⟨by rfl, ?_⟩) ?_ ?_
    rotate_left
    exact qzz21_
    rotate_left
    exact qzz22_
    refine pure_ (i := 3) (N := some 46) (v := ?_) (a' := ?_) #[false, true, false, true, false, false, false, false, false, false, false, false] rfl rfl (any_of HT_.out (by kernel_rfl)) (fun _ _ _ h => h) (Or.inl ⟨by rfl, ?_⟩) ?_ ?_
    rotate_left
    exact qzz21_
    rotate_left
    exact qzz22_
    refine take_ (i := 0) (N := some 43) (v := ?_) (a' := ?_) #[true, true, false, true, false, false, false, false, false, false, false, false] rfl rfl (take_ofW HT_.out HW_.out (by kernel_rfl)) (fun _ _ _ h => h) (Or.inl ⟨by rfl, ?_⟩) hHeld ?_ ?_
    rotate_left
    exact qzz23_
    rotate_left
    exact qzz22_
    refine one_ (i := 2) (N := some 45) #[true, true, true, true, false, false, false, false, false, false, false, false] rfl rfl (one_of HT_.out (by kernel_rfl)) (by decide) (fun K hK => ?_)
    refine Kd.R_append_rows_step k58 (w0 := w) w.heap.size (by rfl) (.const (.slice none 0 0)) (.tmp 44) 47 58 (.agg #[(.string ⟨#[]⟩), (.int .i64 0), (.bool false)]) 32 rfl Tryz.underlying47 info58 rfl (by decide) (by omega) (.slice none 0 0) ([] : List (S58)) l1 _ _ _ (fun _ => True) (fun _ => False) rfl rfl ?aO ?aR (fun _ _ h => h) (fun _ h => h.elim) ?aF ?aB ?aS ?aL ?_
    (case aR => repeat (first | exact (Kd.C_below HR1.out HB.out) | (with_reducible refine Kd.C_alloc ?_ _) | (with_reducible refine Kd.C_drewN ?_ _) | (with_reducible refine Kd.C_drew ?_)))
    (case aB => exact (qzz0_))
    (case aF => exact (fun _ _ => trivial))
    (case aO => exact ((Kd.R_nil _ _ _ _ (fun _ => True))))
    (case aS => exact (below_size (qzz0_)))
    (case aL => have := LMc30.out; omega)
    intro v112 w74 ho hb hg hat
    rw [← Ny111.out] at ho
    have n0_ := Aside0.mk (blk_grown (g := gb101) (o := .cells #[.slice A0_0 l0_0.length c0_0, .int .i64 a0_1] 24 (0, 0)) (qzz2_) hg (by simp [Value.ownBlock]))
    have n1_ := Aside0.mk (Kd.R_grown (qzz3_) hg (fun _ _ => by simp [Value.ownBlock]))
    have n2_ := Aside0.mk (hb)
    have n3_ := Aside0.mk (ho)
    clear BK101
    clear HO108
    clear HB
    have BK101 := n0_
    have HO108 := n1_
    have HB := n2_
    have HO113 := n3_
    clear n0_ n1_ n2_ n3_
    clear ho hb hg hat
    refine hK.out _ _ ⟨(blk_cell BK101.out 0).trans rfl, (blk_cell BK101.out 1).trans rfl⟩ (fun hHeld => ?_)
    clear hK K
    refine norm_ (a' := ?_) ?_ ?_
    rotate_left
    ·
     show Act.put _ (some 45) _ = _
     simp only [Act.put, List.setIfInBounds_toArray, List.set_cons_zero, List.set_cons_succ, i64_w, i32_w]
     rfl
    refine one_ (i := 4) (N := some 47) #[true, true, true, true, true, false, false, false, false, false, false, false] rfl rfl (one_of HT_.out (by kernel_rfl)) (by decide) (fun K hK => ?_)
    refine Kd.R_append_rows_step k58 (w0 := w) w.heap.size (by rfl) (.tmp 45) (.tmp 46) 47 58 (.agg #[(.string ⟨#[]⟩), (.int .i64 0), (.bool false)]) 32 rfl Tryz.underlying47 info58 rfl (by decide) (by omega) v112 y111 l2 _ _ _ (fun _ => True) (fun _ => False) rfl rfl ?aO ?aR (fun _ _ h => h) (fun _ h => h.elim) ?aF ?aB ?aS ?aL ?_
    (case aR => repeat (first | exact (Kd.C_below HR2.out HB.out) | (with_reducible refine Kd.C_alloc ?_ _) | (with_reducible refine Kd.C_drewN ?_ _) | (with_reducible refine Kd.C_drew ?_)))
    (case aB => exact (qzz0_))
    (case aF => exact (fun _ _ => trivial))
    (case aO => exact (qzz10_))
    (case aS => exact (below_size (qzz0_)))
    (case aL => have := LMc31.out; omega)
    intro v115 w75 ho hb hg hat
    rw [← Ny114.out] at ho
    have n0_ := Aside0.mk (blk_grown (g := gb101) (o := .cells #[.slice A0_0 l0_0.length c0_0, .int .i64 a0_1] 24 (0, 0)) (qzz2_) hg (Kd.R_ne HO113.out BK101.out (by decide)))
    have n1_ := Aside0.mk (Kd.R_over' (qzz3_) (Kd.R_typed (qzz10_)) (by decide) hg)
    have n2_ := Aside0.mk (hb)
    have n3_ := Aside0.mk (ho)
    clear BK101
    clear HO108
    clear HB
    clear HO113
    have BK101 := n0_
    have HO108 := n1_
    have HB := n2_
    have HO116 := n3_
    clear n0_ n1_ n2_ n3_
    clear ho hb hg hat
    obtain ⟨Ao76, co76, eo76⟩ := Kd.R_slice HO116.out
    (first | subst eo76 | (injection eo76 with f1_ f2_ f3_; have f4_ := f1_.symm; have f5_ := f3_.symm; clear f1_ f2_ f3_; subst f4_; subst f5_))
    refine hK.out _ _ ⟨(blk_cell BK101.out 0).trans rfl, (blk_cell BK101.out 1).trans rfl⟩ (fun hHeld => ?_)
    clear hK K
    refine norm_ (a' := ?_) ?_ ?_
    rotate_left
    ·
     show Act.put _ (some 47) _ = _
     simp only [Act.put, List.setIfInBounds_toArray, List.set_cons_zero, List.set_cons_succ, i64_w, i32_w]
     rfl
    refine one_ (i := 5) (N := some 48) #[true, true, true, true, true, true, false, false, false, false, false, false] rfl rfl (one_of HT_.out (by kernel_rfl)) (by decide) (fun K hK => ?_)
    refine goes_ Tryz.func26 (by kernel_rfl) rfl #[.slice Ao76 y114.length co76] (by rfl) rfl rfl (qzz4_) ?_
    with_reducible refine (grommetlaw16_theirs.calls kj3 _ _ y114 t117 _ ?side1 ?side2 (hG.below (qzz1_)) A32.out).mono ?_
    (case side1 => repeat (first | exact (Kd.R_reads' HO116.out).2.2 | (with_reducible refine Kd.C_alloc ?_ _) | (with_reducible refine Kd.C_drewN ?_ _) | (with_reducible refine Kd.C_drew ?_)))
    (case side2 => exact (Kd.R_reads' HO116.out).2.1)
    rintro e w77 ⟨v118, rfl, ho0, hb⟩
    refine ⟨_, rfl, ?_⟩
    have n0_ := Aside0.mk (Kd.R_elder' (qzz3_) (Kd.R_base ho0) hb)
    have n1_ := Aside0.mk (Kd.R_below (qzz6_) hb)
    have n2_ := Aside0.mk (Kd.R_lower (Kd.R_new' ho0 (Kd.R_lt (qzz3_))) (below_size (qzz0_)))
    have n3_ := Aside0.mk (blk_below (g := gb101) (o := .cells #[.slice A0_0 l0_0.length c0_0, .int .i64 a0_1] 24 (0, 0)) (qzz2_) hb)
    have n4_ := Aside0.mk (below_step (qzz0_) hb)
    clear HO108
    clear HO116
    clear BK101
    clear HB
    have HO108 := n0_
    have HO116 := n1_
    have HO119 := n2_
    have BK101 := n3_
    have HB := n4_
    clear n0_ n1_ n2_ n3_ n4_
    (try clear hb)
    (try clear hb2)
    (try clear hk)
    (try clear hi)
    (try clear ho0)
    obtain ⟨Ao78, co78, eo78⟩ := Kd.R_slice HO119.out
    (first | subst eo78 | (injection eo78 with f1_ f2_ f3_; have f4_ := f1_.symm; have f5_ := f3_.symm; clear f1_ f2_ f3_; subst f4_; subst f5_))
    refine hK.out _ _ ⟨(blk_cell BK101.out 0).trans rfl, (blk_cell BK101.out 1).trans rfl⟩ (fun hHeld => ?_)
    clear hK K
    refine norm_ (a' := ?_) ?_ ?_
    rotate_left
    ·
     show Act.put _ (some 48) _ = _
     simp only [Act.put, List.setIfInBounds_toArray, List.set_cons_zero, List.set_cons_succ, i64_w, i32_w]
     rfl
    refine one_ (i := 6) (N := some 49) #[true, true, true, true, true, true, true, false, false, false, false, false] rfl rfl (one_of HT_.out (by kernel_rfl)) (by decide) (fun K hK => ?_)
    refine goes_ Tryz.func25 (by kernel_rfl) rfl #[.agg #[.slice A0_0 l0_0.length c0_0, .int .i64 a0_1], .slice Ao78 t117.length co78] (by rfl) rfl rfl (qzz4_) ?_
    with_reducible refine (path_Get.calls kj3 _ _ l0_0 a0_1 _ _ t117 t120 t121 _ ?side1 ?side2 ?side3 ?side4 (hG.below (qzz1_)) A33.out).mono ?_
    (case side1 => repeat (first | exact (Kd.C_below HR0_0.out HB.out) | (with_reducible refine Kd.C_alloc ?_ _) | (with_reducible refine Kd.C_drewN ?_ _) | (with_reducible refine Kd.C_drew ?_)))
    (case side2 => exact HC0_0.out)
    (case side3 => repeat (first | exact (Kd.R_reads' HO119.out).2.2 | (with_reducible refine Kd.C_alloc ?_ _) | (with_reducible refine Kd.C_drewN ?_ _) | (with_reducible refine Kd.C_drew ?_)))
    (case side4 => exact (Kd.R_reads' HO119.out).2.1)
    rintro e w79 ⟨rfl, hb⟩
    refine ⟨_, rfl, ?_⟩
    have n0_ := Aside0.mk (Kd.R_below (qzz3_) hb)
    have n1_ := Aside0.mk (Kd.R_below (qzz6_) hb)
    have n2_ := Aside0.mk (Kd.R_below (qzz5_) hb)
    have n3_ := Aside0.mk (blk_below (g := gb101) (o := .cells #[.slice A0_0 l0_0.length c0_0, .int .i64 a0_1] 24 (0, 0)) (qzz2_) hb)
    have n4_ := Aside0.mk (below_step (qzz0_) hb)
    clear HO108
    clear HO116
    clear HO119
    clear BK101
    clear HB
    have HO108 := n0_
    have HO116 := n1_
    have HO119 := n2_
    have BK101 := n3_
    have HB := n4_
    clear n0_ n1_ n2_ n3_ n4_
    (try clear hb)
    (try clear hb2)
    (try clear hk)
    (try clear hi)
    refine hK.out _ _ ⟨(blk_cell BK101.out 0).trans rfl, (blk_cell BK101.out 1).trans rfl⟩ (fun hHeld => ?_)
    clear hK K
    refine norm_ (a' := ?_) ?_ ?_
    rotate_left
    ·
     show Act.put _ (some 49) _ = _
     simp only [Act.put, List.setIfInBounds_toArray, List.set_cons_zero, List.set_cons_succ, i64_w, i32_w]
     rfl
    refine pure_ (i := 7) (N := some 42) (v := ?_) (a' := ?_) #[true, true, true, true, true, true, true, true, false, false, false, false] rfl rfl (any_of HT_.out (by kernel_rfl)) (fun _ _ _ h => h) (Or.inl ⟨by rfl, ?_⟩) ?_ ?_
    rotate_left
    exact qzz21_
    rotate_left
    exact qzz22_
    refine pure_ (i := 8) (N := some 50) (v := ?_) (a' := ?_) #[true, true, true, true, true, true, true, true, true, false, false, false] rfl rfl (any_of HT_.out (by kernel_rfl)) (fun _ _ _ h => h) (Or.inl ⟨by rfl, ?_⟩) ?_ ?_
    rotate_left
    exact qzz21_
    rotate_left
    exact qzz22_
    refine pure_ (i := 9) (N := some 51) (v := ?_) (a' := ?_) #[true, true, true, true, true, true, true, true, true, true, false, false] rfl rfl (any_of HT_.out (by kernel_rfl)) (fun _ _ _ h => h) (Or.inl ⟨by rfl, ?_⟩) ?_ ?_
    rotate_left
    exact qzz21_
    rotate_left
    exact qzz22_
    refine pure_ (i := 10) (N := some 9) (v := ?_) (a' := ?_) #[true, true, true, true, true, true, true, true, true, true, true, false] rfl rfl (any_of HT_.out (by kernel_rfl)) (fun _ _ _ h => h) (Or.inl ⟨by rfl, ?_⟩) ?_ ?_
    rotate_left
    exact qzz21_
    rotate_left
    exact qzz22_
    refine pure_ (i := 11) (N := some 10) (v := ?_) (a' := ?_) #[true, true, true, true, true, true, true, true, true, true, true, true] rfl rfl (any_of HT_.out (by kernel_rfl)) (fun _ _ _ h => h) (Or.inl ⟨by rfl, ?_⟩) ?_ ?_
    rotate_left
    exact qzz21_
    rotate_left
    exact qzz22_
    refine done_ (done_of HT_.out (by kernel_rfl)) ?_
    try go_wp2_with (first | ((with_reducible refine gate_callee (f := 26) rfl ?_); refine goesL_ (some 54) rfl rfl Tryz.func26 (by kernel_rfl) rfl #[.slice A2 l2.length c2] rfl (qzz4_) ?_; (with_reducible refine (grommetlaw16_theirs.calls kj3 _ _ l2 t122 _ ?side1 ?side2 (hG.below (qzz1_)) A34.out).mono ?_); (case side1 => repeat (first | exact (Kd.C_below HR2.out HB.out) | (with_reducible refine Kd.C_alloc ?_ _) | (with_reducible refine Kd.C_drewN ?_ _) | (with_reducible refine Kd.C_drew ?_))); (case side2 => exact HC2.out); rintro e w80 ⟨v123, rfl, ho0, hb⟩; refine ⟨_, rfl, ?_⟩; have n0_ := Aside0.mk (Kd.R_elder' (qzz3_) (Kd.R_base ho0) hb); have n1_ := Aside0.mk (Kd.R_below (qzz6_) hb); have n2_ := Aside0.mk (Kd.R_elder' (qzz5_) (Kd.R_base ho0) hb); have n3_ := Aside0.mk (Kd.R_lower (Kd.R_new' (Kd.R_new' ho0 (Kd.R_lt (qzz3_))) (Kd.R_lt (qzz5_))) (below_size (qzz0_))); have n4_ := Aside0.mk (blk_below (g := gb101) (o := .cells #[.slice A0_0 l0_0.length c0_0, .int .i64 a0_1] 24 (0, 0)) (qzz2_) hb); have n5_ := Aside0.mk (below_step (qzz0_) hb); clear HO108; clear HO116; clear HO119; clear BK101; clear HB; have HO108 := n0_; have HO116 := n1_; have HO119 := n2_; have HO124 := n3_; have BK101 := n4_; have HB := n5_; clear n0_ n1_ n2_ n3_ n4_ n5_; (try clear hb); (try clear hk); (try clear ho0); obtain ⟨Ao81, co81, eo81⟩ := Kd.R_slice HO124.out; subst eo81) | ((with_reducible refine gate_callee (f := 28) rfl ?_); refine goesL_ (some 55) rfl rfl Tryz.func28 (by kernel_rfl) rfl #[.slice Ao81 t122.length co81] rfl (qzz4_) ?_; (with_reducible refine (path_Format.calls _ _ t122 t125 t126 _ ?side1 ?side2 (hG.below (qzz1_)) A35.out).mono ?_); (case side1 => repeat (first | exact (Kd.R_reads' HO124.out).2.2 | (with_reducible refine Kd.C_alloc ?_ _) | (with_reducible refine Kd.C_drewN ?_ _) | (with_reducible refine Kd.C_drew ?_))); (case side2 => exact (Kd.R_reads' HO124.out).2.1); rintro e w82 ⟨rfl, hb⟩; refine ⟨_, rfl, ?_⟩; have n0_ := Aside0.mk (Kd.R_below (qzz3_) hb); have n1_ := Aside0.mk (Kd.R_below (qzz6_) hb); have n2_ := Aside0.mk (Kd.R_below (qzz5_) hb); have n3_ := Aside0.mk (Kd.R_below (qzz8_) hb); have n4_ := Aside0.mk (blk_below (g := gb101) (o := .cells #[.slice A0_0 l0_0.length c0_0, .int .i64 a0_1] 24 (0, 0)) (qzz2_) hb); have n5_ := Aside0.mk (below_step (qzz0_) hb); clear HO108; clear HO116; clear HO119; clear HO124; clear BK101; clear HB; have HO108 := n0_; have HO116 := n1_; have HO119 := n2_; have HO124 := n3_; have BK101 := n4_; have HB := n5_; clear n0_ n1_ n2_ n3_ n4_ n5_; (try clear hb); (try clear hk); have hcz83_0 : w82.cell? ⟨gb101, 0, none⟩ = some (.slice A0_0 l0_0.length c0_0) := (blk_cell BK101.out 0).trans rfl; have hcz83_1 : w82.cell? ⟨gb101, 1, none⟩ = some (.int .i64 a0_1) := (blk_cell BK101.out 1).trans rfl; have hfz83_0 := blk_frozen BK101.out 0; have hfz83_1 := blk_frozen BK101.out 1) | ((with_reducible refine gate_dst (N := 13) rfl ?_); (try (refine gate_guard (by rfl) ?_; dsimp only)); refine box_event ?hg (N := 13) ?hd (cs := #[.slice none 0 0, .int .i64 0]) (t := 24) ?hr ?_; (case hd => rfl); (case hg => rfl); (case hr => first | (go_simp; done) | (go_simp; rfl)); intro gb129 hg w84 hbox hb; have n0_ := Aside0.mk (Kd.R_below (qzz3_) hb); have n1_ := Aside0.mk (Kd.R_below (qzz6_) hb); have n2_ := Aside0.mk (Kd.R_below (qzz5_) hb); have n3_ := Aside0.mk (Kd.R_below (qzz8_) hb); have n4_ := Aside0.mk (blk_below (g := gb101) (o := .cells #[.slice A0_0 l0_0.length c0_0, .int .i64 a0_1] 24 (0, 0)) (qzz2_) hb); have n5_ := Aside0.mk (below_step (qzz0_) hb); have n6_ := Aside0.mk (hbox); have n7_ := Aside0.mk ((by rw [hg]; exact (below_size (qzz0_)) : w.heap.size ≤ gb129)); have n8_ := Aside0.mk ((by rw [hg]; exact (below_size (qzz0_)) : w.heap.size ≤ gb129)); have n9_ := Aside0.mk ((by rw [hg]; exact Nat.ne_of_lt (blk_lt (g := gb101) (o := .cells #[.slice A0_0 l0_0.length c0_0, .int .i64 a0_1] 24 (0, 0)) (qzz2_)) : gb101 ≠ gb129)); have n10_ := Aside0.mk ((by rw [hg]; exact Nat.ne_of_gt (blk_lt (g := gb101) (o := .cells #[.slice A0_0 l0_0.length c0_0, .int .i64 a0_1] 24 (0, 0)) (qzz2_)) : gb129 ≠ gb101)); clear HO108; clear HO116; clear HO119; clear HO124; clear BK101; clear HB; have HO108 := n0_; have HO116 := n1_; have HO119 := n2_; have HO124 := n3_; have BK101 := n4_; have HB := n5_; have BK129 := n6_; have GW129 := n7_; have GE129 := n8_; have NB101_129 := n9_; have NB129_101 := n10_; clear n0_ n1_ n2_ n3_ n4_ n5_ n6_ n7_ n8_ n9_ n10_; clear hb hbox hg; have hnb85 := NB129_101.out; have hnc85 := NB101_129.out; have hcz86_0 : w84.cell? ⟨gb129, 0, none⟩ = some (.slice none 0 0) := (blk_cell BK129.out 0).trans rfl; have hcz86_1 : w84.cell? ⟨gb129, 1, none⟩ = some (.int .i64 0) := (blk_cell BK129.out 1).trans rfl; have hfz86_0 := blk_frozen BK129.out 0; have hfz86_1 := blk_frozen BK129.out 1; have hput_ : (((w84.setCell ⟨gb129, 0, none⟩ (.slice A0_0 l0_0.length c0_0)).setCell ⟨gb129, 1, none⟩ (.int .i64 a0_1)).setCell ⟨gb129, 1, none⟩ (.int .i64 t109)).cell? ⟨gb129, 1, none⟩ = some (.int .i64 t109) := (blk_cell (blk_put (blk_put (blk_put BK129.out 0 _ rfl) 1 _ rfl) 1 _ rfl) 1).trans rfl) | ((with_reducible refine gate_callee (f := 29) rfl ?_); refine goesL_ (some 85) rfl rfl Tryz.func29 (by kernel_rfl) rfl #[.agg #[.slice A0_0 l0_0.length c0_0, .int .i64 t109]] rfl (qzz4_) ?_; (with_reducible refine (graph_Right.calls _ _ l0_0 t109 true _ ?side1 ?side2 (hG.below (qzz1_)) A38.out).mono ?_); (case side1 => exact Kd.C_below HR0_0.out (qzz7_)); (case side2 => exact HC0_0.out); rintro e w87 ⟨rfl, hb⟩; refine ⟨_, rfl, ?_⟩; have n0_ := Aside0.mk (Kd.R_below (qzz15_) hb); have n1_ := Aside0.mk (Kd.R_below (qzz14_) hb); have n2_ := Aside0.mk (Kd.R_below (qzz13_) hb); have n3_ := Aside0.mk (Kd.R_below (qzz12_) hb); have n4_ := Aside0.mk (blk_below (g := gb101) (o := .cells #[.slice A0_0 l0_0.length c0_0, .int .i64 a0_1] 24 (0, 0)) (qzz11_) hb); have n5_ := Aside0.mk (blk_below (g := gb129) (o := .cells #[.slice A0_0 l0_0.length c0_0, .int .i64 t109] 24 (0, 0)) (qzz9_) hb); have n6_ := Aside0.mk (below_step (qzz7_) hb); clear HO108; clear HO116; clear HO119; clear HO124; clear BK101; clear BK129; clear HB; have HO108 := n0_; have HO116 := n1_; have HO119 := n2_; have HO124 := n3_; have BK101 := n4_; have BK129 := n5_; have HB := n6_; clear n0_ n1_ n2_ n3_ n4_ n5_ n6_; (try clear hb); (try clear hk)))
    have n0_ := Aside0.mk (Kd.R_drew HO108.out)
    have n1_ := Aside0.mk (Kd.R_drew HO116.out)
    have n2_ := Aside0.mk (Kd.R_drew HO119.out)
    have n3_ := Aside0.mk (Kd.R_drew HO124.out)
    have n4_ := Aside0.mk (blk_drew BK101.out)
    have n5_ := Aside0.mk (blk_drew BK129.out)
    have n6_ := Aside0.mk (below_drew1 HB.out)
    clear HO108
    clear HO116
    clear HO119
    clear HO124
    clear BK101
    clear BK129
    clear HB
    have HO108 := n0_
    have HO116 := n1_
    have HO119 := n2_
    have HO124 := n3_
    have BK101 := n4_
    have BK129 := n5_
    have HB := n6_
    clear n0_ n1_ n2_ n3_ n4_ n5_ n6_
    refine start_ (n := 9) (S := fun w' => w'.cell? ⟨gb129, 0, none⟩ = some (.slice A0_0 l0_0.length c0_0) ∧ w'.cell? ⟨gb129, 1, none⟩ = some (.int .i64 t109)) (ds := []) #[false, false, false, false, false, false, false, false, false] (by kernel_rfl) rfl rfl ⟨(blk_cell BK129.out 0).trans rfl, (blk_cell BK129.out 1).trans rfl⟩ (fun hHeld => ?_); refine with_tabW grommetlaw16_PathOn.tab14 grommetlaw16_PathOn.bits14 (fun HT_ HW_ => ?_)
    generalize w87.drew = w88 at HO108 HO116 HO119 HO124 BK101 BK129 HB hHeld ⊢
    refine pure_ (i := 1) (N := some 89) (v := ?_) (a' := ?_) #[false, true, false, false, false, false, false, false, false] rfl rfl (any_of HT_.out (by kernel_rfl)) (fun _ _ _ h => h) (Or.inl ⟨by rfl, ?_⟩) ?_ ?_
    rotate_left
    exact qzz21_
    rotate_left
    exact qzz22_
    refine take_ (i := 0) (N := some 88) (v := ?_) (a' := ?_) #[true, true, false, false, false, false, false, false, false] rfl rfl (take_ofW HT_.out HW_.out (by kernel_rfl)) (fun _ _ _ h => h) (Or.inl ⟨by rfl, ?_⟩) hHeld ?_ ?_
    rotate_left
    exact qzz23_
    rotate_left
    exact qzz22_
    refine one_ (i := 2) (N := some 90) #[true, true, true, false, false, false, false, false, false] rfl rfl (one_of HT_.out (by kernel_rfl)) (by decide) (fun K hK => ?_)
    refine goes_ Tryz.func26 (by kernel_rfl) rfl #[.slice A2 l2.length c2] (by rfl) rfl rfl (qzz4_) ?_
    with_reducible refine (grommetlaw16_theirs.calls kj3 _ _ l2 t131 _ ?side1 ?side2 (hG.below (qzz1_)) A40.out).mono ?_
    (case side1 => repeat (first | exact (Kd.C_below HR2.out HB.out) | (with_reducible refine Kd.C_alloc ?_ _) | (with_reducible refine Kd.C_drewN ?_ _) | (with_reducible refine Kd.C_drew ?_)))
    (case side2 => exact HC2.out)
    rintro e w89 ⟨v132, rfl, ho0, hb⟩
    refine ⟨_, rfl, ?_⟩
    have n0_ := Aside0.mk (Kd.R_elder' (qzz3_) (Kd.R_base ho0) hb)
    have n1_ := Aside0.mk (Kd.R_below (qzz6_) hb)
    have n2_ := Aside0.mk (Kd.R_elder' (qzz5_) (Kd.R_base ho0) hb)
    have n3_ := Aside0.mk (Kd.R_elder' (qzz8_) (Kd.R_base ho0) hb)
    have n4_ := Aside0.mk (Kd.R_lower (Kd.R_new' (Kd.R_new' (Kd.R_new' ho0 (Kd.R_lt (qzz3_))) (Kd.R_lt (qzz5_))) (Kd.R_lt (qzz8_))) (below_size (qzz7_)))
    have n5_ := Aside0.mk (blk_below (g := gb101) (o := .cells #[.slice A0_0 l0_0.length c0_0, .int .i64 a0_1] 24 (0, 0)) (qzz2_) hb)
    have n6_ := Aside0.mk (blk_below (g := gb129) (o := .cells #[.slice A0_0 l0_0.length c0_0, .int .i64 t109] 24 (0, 0)) (qzz17_) hb)
    have n7_ := Aside0.mk (below_step (qzz7_) hb)
    clear HO108
    clear HO116
    clear HO119
    clear HO124
    clear BK101
    clear BK129
    clear HB
    have HO108 := n0_
    have HO116 := n1_
    have HO119 := n2_
    have HO124 := n3_
    have HO133 := n4_
    have BK101 := n5_
    have BK129 := n6_
    have HB := n7_
    clear n0_ n1_ n2_ n3_ n4_ n5_ n6_ n7_
    (try clear hb)
    (try clear hb2)
    (try clear hk)
    (try clear hi)
    (try clear ho0)
    obtain ⟨Ao90, co90, eo90⟩ := Kd.R_slice HO133.out
    (first | subst eo90 | (injection eo90 with f1_ f2_ f3_; have f4_ := f1_.symm; have f5_ := f3_.symm; clear f1_ f2_ f3_; subst f4_; subst f5_))
    refine hK.out _ _ ⟨(blk_cell BK129.out 0).trans rfl, (blk_cell BK129.out 1).trans rfl⟩ (fun hHeld => ?_)
    clear hK K
    refine norm_ (a' := ?_) ?_ ?_
    rotate_left
    ·
     show Act.put _ (some 90) _ = _
     simp only [Act.put, List.setIfInBounds_toArray, List.set_cons_zero, List.set_cons_succ, i64_w, i32_w]
     rfl
    refine one_ (i := 3) (N := some 91) #[true, true, true, true, false, false, false, false, false] rfl rfl (one_of HT_.out (by kernel_rfl)) (by decide) (fun K hK => ?_)
    refine goes_ Tryz.func25 (by kernel_rfl) rfl #[.agg #[.slice A0_0 l0_0.length c0_0, .int .i64 t109], .slice Ao90 t131.length co90] (by rfl) rfl rfl (qzz4_) ?_
    with_reducible refine (path_Get.calls kj3 _ _ l0_0 t109 _ _ t131 t134 t135 _ ?side1 ?side2 ?side3 ?side4 (hG.below (qzz1_)) A41.out).mono ?_
    (case side1 => repeat (first | exact (Kd.C_below HR0_0.out HB.out) | (with_reducible refine Kd.C_alloc ?_ _) | (with_reducible refine Kd.C_drewN ?_ _) | (with_reducible refine Kd.C_drew ?_)))
    (case side2 => exact HC0_0.out)
    (case side3 => repeat (first | exact (Kd.R_reads' HO133.out).2.2 | (with_reducible refine Kd.C_alloc ?_ _) | (with_reducible refine Kd.C_drewN ?_ _) | (with_reducible refine Kd.C_drew ?_)))
    (case side4 => exact (Kd.R_reads' HO133.out).2.1)
    rintro e w91 ⟨rfl, hb⟩
    refine ⟨_, rfl, ?_⟩
    have n0_ := Aside0.mk (Kd.R_below (qzz3_) hb)
    have n1_ := Aside0.mk (Kd.R_below (qzz6_) hb)
    have n2_ := Aside0.mk (Kd.R_below (qzz5_) hb)
    have n3_ := Aside0.mk (Kd.R_below (qzz8_) hb)
    have n4_ := Aside0.mk (Kd.R_below (qzz18_) hb)
    have n5_ := Aside0.mk (blk_below (g := gb101) (o := .cells #[.slice A0_0 l0_0.length c0_0, .int .i64 a0_1] 24 (0, 0)) (qzz2_) hb)
    have n6_ := Aside0.mk (blk_below (g := gb129) (o := .cells #[.slice A0_0 l0_0.length c0_0, .int .i64 t109] 24 (0, 0)) (qzz17_) hb)
    have n7_ := Aside0.mk (below_step (qzz7_) hb)
    clear HO108
    clear HO116
    clear HO119
    clear HO124
    clear HO133
    clear BK101
    clear BK129
    clear HB
    have HO108 := n0_
    have HO116 := n1_
    have HO119 := n2_
    have HO124 := n3_
    have HO133 := n4_
    have BK101 := n5_
    have BK129 := n6_
    have HB := n7_
    clear n0_ n1_ n2_ n3_ n4_ n5_ n6_ n7_
    (try clear hb)
    (try clear hb2)
    (try clear hk)
    (try clear hi)
    refine hK.out _ _ ⟨(blk_cell BK129.out 0).trans rfl, (blk_cell BK129.out 1).trans rfl⟩ (fun hHeld => ?_)
    clear hK K
    refine norm_ (a' := ?_) ?_ ?_
    rotate_left
    ·
     show Act.put _ (some 91) _ = _
     simp only [Act.put, List.setIfInBounds_toArray, List.set_cons_zero, List.set_cons_succ, i64_w, i32_w]
     rfl
    refine pure_ (i := 4) (N := some 87) (v := ?_) (a' := ?_) #[true, true, true, true, true, false, false, false, false] rfl rfl (any_of HT_.out (by kernel_rfl)) (fun _ _ _ h => h) (Or.inl ⟨by rfl, ?_⟩) ?_ ?_
    rotate_left
    exact qzz21_
    rotate_left
    exact qzz22_
    refine pure_ (i := 5) (N := some 92) (v := ?_) (a' := ?_) #[true, true, true, true, true, true, false, false, false] rfl rfl (any_of HT_.out (by kernel_rfl)) (fun _ _ _ h => h) (Or.inl ⟨by rfl, ?_⟩) ?_ ?_
    rotate_left
    exact qzz21_
    rotate_left
    exact qzz22_
    refine pure_ (i := 6) (N := some 93) (v := ?_) (a' := ?_) #[true, true, true, true, true, true, true, false, false] rfl rfl (any_of HT_.out (by kernel_rfl)) (fun _ _ _ h => h) (Or.inl ⟨by rfl, ?_⟩) ?_ ?_
    rotate_left
    exact qzz21_
    rotate_left
    exact qzz22_
    refine pure_ (i := 7) (N := some 14) (v := ?_) (a' := ?_) #[true, true, true, true, true, true, true, true, false] rfl rfl (any_of HT_.out (by kernel_rfl)) (fun _ _ _ h => h) (Or.inl ⟨by rfl, ?_⟩) ?_ ?_
    rotate_left
    exact qzz21_
    rotate_left
    exact qzz22_
    refine pure_ (i := 8) (N := some 15) (v := ?_) (a' := ?_) #[true, true, true, true, true, true, true, true, true] rfl rfl (any_of HT_.out (by kernel_rfl)) (fun _ _ _ h => h) (Or.inl ⟨by rfl, ?_⟩) ?_ ?_
    rotate_left
    exact qzz21_
    rotate_left
    exact qzz22_
    refine done_ (done_of HT_.out (by kernel_rfl)) ?_
    try go_wp2
    go_ret
    exact ⟨qzz16_, qzz7_⟩
   rw [if_pos c43] at H
   have c43b0 : (t135 == t121) = true := beq_iff_eq.mpr c43
   have c43b1 : (t135 != t121) = false := bne_eq_false_iff_eq.mpr c43
   clear c43
   replace H := Option.bind_eq_some_iff.mp H
   obtain ⟨t136, A440, H⟩ := H
   replace H : (some t136) = some r := H
   have A44 := Aside0.mk A440
   clear A440
   obtain rfl := Option.some.inj H
   try go_wp2
   have n0_ := Aside0.mk (blk_drew BK101.out)
   have n1_ := Aside0.mk (below_drew1 HB.out)
   clear BK101
   clear HB
   have BK101 := n0_
   have HB := n1_
   clear n0_ n1_
   refine start_ (n := 9) (S := fun w' => w'.cell? ⟨gb101, 0, none⟩ = some (.slice A0_0 l0_0.length c0_0) ∧ w'.cell? ⟨gb101, 1, none⟩ = some (.int .i64 a0_1)) (ds := []) #[false, false, false, false, false, false, false, false, false] (by kernel_rfl) rfl rfl ⟨(blk_cell BK101.out 0).trans rfl, (blk_cell BK101.out 1).trans rfl⟩ (fun hHeld => ?_); refine with_tabW grommetlaw16_PathOn.tab3 grommetlaw16_PathOn.bits3 (fun HT_ HW_ => ?_)
   generalize wc.drew = w45 at BK101 HB hHeld ⊢
   refine pure_ (i := 1) (N := some 37) (v := ?_) (a' := ?_) #[false, true, false, false, false, false, false, false, false] rfl rfl (any_of HT_.out (by kernel_rfl)) (fun _ _ _ h => h) (Or.inl ⟨by rfl, ?_⟩) ?_ ?_
   rotate_left
   exact qzz21_
   rotate_left
   exact qzz22_
   refine take_ (i := 0) (N := some 36) (v := ?_) (a' := ?_) #[true, true, false, false, false, false, false, false, false] rfl rfl (take_ofW HT_.out HW_.out (by kernel_rfl)) (fun _ _ _ h => h) (Or.inl ⟨by rfl, ?_⟩) hHeld ?_ ?_
   rotate_left
   exact qzz23_
   rotate_left
   exact qzz22_
   refine one_ (i := 2) (N := some 38) #[true, true, true, false, false, false, false, false, false] rfl rfl (one_of HT_.out (by kernel_rfl)) (by decide) (fun K hK => ?_)
   refine goes_ Tryz.func26 (by kernel_rfl) rfl #[.slice A1 l1.length c1] (by rfl) rfl rfl (qzz4_) ?_
   with_reducible refine (grommetlaw16_theirs.calls kj3 _ _ l1 t106 _ ?side1 ?side2 (hG.below (qzz1_)) A28.out).mono ?_
   (case side1 => repeat (first | exact (Kd.C_below HR1.out HB.out) | (with_reducible refine Kd.C_alloc ?_ _) | (with_reducible refine Kd.C_drewN ?_ _) | (with_reducible refine Kd.C_drew ?_)))
   (case side2 => exact HC1.out)
   rintro e w46 ⟨v107, rfl, ho0, hb⟩
   refine ⟨_, rfl, ?_⟩
   have n0_ := Aside0.mk (Kd.R_lower ho0 (below_size (qzz0_)))
   have n1_ := Aside0.mk (blk_below (g := gb101) (o := .cells #[.slice A0_0 l0_0.length c0_0, .int .i64 a0_1] 24 (0, 0)) (qzz2_) hb)
   have n2_ := Aside0.mk (below_step (qzz0_) hb)
   clear BK101
   clear HB
   have HO108 := n0_
   have BK101 := n1_
   have HB := n2_
   clear n0_ n1_ n2_
   (try clear hb)
   (try clear hb2)
   (try clear hk)
   (try clear hi)
   (try clear ho0)
   obtain ⟨Ao47, co47, eo47⟩ := Kd.R_slice HO108.out
   (first | subst eo47 | (injection eo47 with f1_ f2_ f3_; have f4_ := f1_.symm; have f5_ := f3_.symm; clear f1_ f2_ f3_; subst f4_; subst f5_))
   refine hK.out _ _ ⟨(blk_cell BK101.out 0).trans rfl, (blk_cell BK101.out 1).trans rfl⟩ (fun hHeld => ?_)
   clear hK K
   refine norm_ (a' := ?_) ?_ ?_
   rotate_left
   ·
    show Act.put _ (some 38) _ = _
    simp only [Act.put, List.setIfInBounds_toArray, List.set_cons_zero, List.set_cons_succ, i64_w, i32_w]
    rfl
   refine one_ (i := 3) (N := some 39) #[true, true, true, true, false, false, false, false, false] rfl rfl (one_of HT_.out (by kernel_rfl)) (by decide) (fun K hK => ?_)
   refine goes_ Tryz.func25 (by kernel_rfl) rfl #[.agg #[.slice A0_0 l0_0.length c0_0, .int .i64 a0_1], .slice Ao47 t106.length co47] (by rfl) rfl rfl (qzz4_) ?_
   with_reducible refine (path_Get.calls kj3 _ _ l0_0 a0_1 _ _ t106 t109 t110 _ ?side1 ?side2 ?side3 ?side4 (hG.below (qzz1_)) A29.out).mono ?_
   (case side1 => repeat (first | exact (Kd.C_below HR0_0.out HB.out) | (with_reducible refine Kd.C_alloc ?_ _) | (with_reducible refine Kd.C_drewN ?_ _) | (with_reducible refine Kd.C_drew ?_)))
   (case side2 => exact HC0_0.out)
   (case side3 => repeat (first | exact (Kd.R_reads' HO108.out).2.2 | (with_reducible refine Kd.C_alloc ?_ _) | (with_reducible refine Kd.C_drewN ?_ _) | (with_reducible refine Kd.C_drew ?_)))
   (case side4 => exact (Kd.R_reads' HO108.out).2.1)
   rintro e w48 ⟨rfl, hb⟩
   refine ⟨_, rfl, ?_⟩
   have n0_ := Aside0.mk (Kd.R_below (qzz3_) hb)
   have n1_ := Aside0.mk (blk_below (g := gb101) (o := .cells #[.slice A0_0 l0_0.length c0_0, .int .i64 a0_1] 24 (0, 0)) (qzz2_) hb)
   have n2_ := Aside0.mk (below_step (qzz0_) hb)
   clear HO108
   clear BK101
   clear HB
   have HO108 := n0_
   have BK101 := n1_
   have HB := n2_
   clear n0_ n1_ n2_
   (try clear hb)
   (try clear hb2)
   (try clear hk)
   (try clear hi)
   refine hK.out _ _ ⟨(blk_cell BK101.out 0).trans rfl, (blk_cell BK101.out 1).trans rfl⟩ (fun hHeld => ?_)
   clear hK K
   refine norm_ (a' := ?_) ?_ ?_
   rotate_left
   ·
    show Act.put _ (some 39) _ = _
    simp only [Act.put, List.setIfInBounds_toArray, List.set_cons_zero, List.set_cons_succ, i64_w, i32_w]
    rfl
   refine pure_ (i := 4) (N := some 35) (v := ?_) (a' := ?_) #[true, true, true, true, true, false, false, false, false] rfl rfl (any_of HT_.out (by kernel_rfl)) (fun _ _ _ h => h) (Or.inl ⟨by rfl, ?_⟩) ?_ ?_
   rotate_left
   exact qzz21_
   rotate_left
   exact qzz22_
   refine pure_ (i := 5) (N := some 40) (v := ?_) (a' := ?_) #[true, true, true, true, true, true, false, false, false] rfl rfl (any_of HT_.out (by kernel_rfl)) (fun _ _ _ h => h) (Or.inl ⟨by rfl, ?_⟩) ?_ ?_
   rotate_left
   exact qzz21_
   rotate_left
   exact qzz22_
   refine pure_ (i := 6) (N := some 41) (v := ?_) (a' := ?_) #[true, true, true, true, true, true, true, false, false] rfl rfl (any_of HT_.out (by kernel_rfl)) (fun _ _ _ h => h) (Or.inl ⟨by rfl, ?_⟩) ?_ ?_
   rotate_left
   exact qzz21_
   rotate_left
   exact qzz22_
   refine pure_ (i := 7) (N := some 7) (v := ?_) (a' := ?_) #[true, true, true, true, true, true, true, true, false] rfl rfl (any_of HT_.out (by kernel_rfl)) (fun _ _ _ h => h) (Or.inl ⟨by rfl, ?_⟩) ?_ ?_
   rotate_left
   exact qzz21_
   rotate_left
   exact qzz22_
   refine pure_ (i := 8) (N := some 8) (v := ?_) (a' := ?_) #[true, true, true, true, true, true, true, true, true] rfl rfl (any_of HT_.out (by kernel_rfl)) (fun _ _ _ h => h) (Or.inl ⟨by rfl, ?_⟩) ?_ ?_
   rotate_left
   exact qzz21_
   rotate_left
   exact qzz22_
   refine done_ (done_of HT_.out (by kernel_rfl)) ?_
   try go_wp2
   have n0_ := Aside0.mk (Kd.R_drew HO108.out)
   have n1_ := Aside0.mk (blk_drew BK101.out)
   have n2_ := Aside0.mk (below_drew1 HB.out)
   clear HO108
   clear BK101
   clear HB
   have HO108 := n0_
   have BK101 := n1_
   have HB := n2_
   clear n0_ n1_ n2_
   refine start_ (n := 12) (S := fun w' => w'.cell? ⟨gb101, 0, none⟩ = some (.slice A0_0 l0_0.length c0_0) ∧ w'.cell? ⟨gb101, 1, none⟩ = some (.int .i64 a0_1)) (ds := []) #[false, false, false, false, false, false, false, false, false, false, false, false] (by kernel_rfl) rfl rfl ⟨(blk_cell BK101.out 0).trans rfl, (blk_cell BK101.out 1).trans rfl⟩ (fun hHeld => ?_); refine with_tabW grommetlaw16_PathOn.tab4 grommetlaw16_PathOn.bits4 (fun HT_ HW_ => ?_)
   generalize w48.drew = w49 at HO108 BK101 HB hHeld ⊢
   refine pure_ (i := 1) (N := some 44) (v := ?_) (a' := ?_) #[false, true, false, false, false, false, false, false, false, false, false, false] rfl rfl (any_of HT_.out (by kernel_rfl)) (fun _ _ _ h => h) (Or.inl ⟨by rfl, ?_⟩) ?_ ?_
   rotate_left
   exact qzz21_
   rotate_left
   exact qzz22_
   refine pure_ (i := 3) (N := some 46) (v := ?_) (a' := ?_) #[false, true, false, true, false, false, false, false, false, false, false, false] rfl rfl (any_of HT_.out (by kernel_rfl)) (fun _ _ _ h => h) (Or.inl ⟨by rfl, ?_⟩) ?_ ?_
   rotate_left
   exact qzz21_
   rotate_left
   exact qzz22_
   refine take_ (i := 0) (N := some 43) (v := ?_) (a' := ?_) #[true, true, false, true, false, false, false, false, false, false, false, false] rfl rfl (take_ofW HT_.out HW_.out (by kernel_rfl)) (fun _ _ _ h => h) (Or.inl ⟨by rfl, ?_⟩) hHeld ?_ ?_
   rotate_left
   exact qzz23_
   rotate_left
   exact qzz22_
   refine one_ (i := 2) (N := some 45) #[true, true, true, true, false, false, false, false, false, false, false, false] rfl rfl (one_of HT_.out (by kernel_rfl)) (by decide) (fun K hK => ?_)
   refine Kd.R_append_rows_step k58 (w0 := w) w.heap.size (by rfl) (.const (.slice none 0 0)) (.tmp 44) 47 58 (.agg #[(.string ⟨#[]⟩), (.int .i64 0), (.bool false)]) 32 rfl Tryz.underlying47 info58 rfl (by decide) (by omega) (.slice none 0 0) ([] : List (S58)) l1 _ _ _ (fun _ => True) (fun _ => False) rfl rfl ?aO ?aR (fun _ _ h => h) (fun _ h => h.elim) ?aF ?aB ?aS ?aL ?_
   (case aR => repeat (first | exact (Kd.C_below HR1.out HB.out) | (with_reducible refine Kd.C_alloc ?_ _) | (with_reducible refine Kd.C_drewN ?_ _) | (with_reducible refine Kd.C_drew ?_)))
   (case aB => exact (qzz0_))
   (case aF => exact (fun _ _ => trivial))
   (case aO => exact ((Kd.R_nil _ _ _ _ (fun _ => True))))
   (case aS => exact (below_size (qzz0_)))
   (case aL => have := LMc30.out; omega)
   intro v112 w50 ho hb hg hat
   rw [← Ny111.out] at ho
   have n0_ := Aside0.mk (blk_grown (g := gb101) (o := .cells #[.slice A0_0 l0_0.length c0_0, .int .i64 a0_1] 24 (0, 0)) (qzz2_) hg (by simp [Value.ownBlock]))
   have n1_ := Aside0.mk (Kd.R_grown (qzz3_) hg (fun _ _ => by simp [Value.ownBlock]))
   have n2_ := Aside0.mk (hb)
   have n3_ := Aside0.mk (ho)
   clear BK101
   clear HO108
   clear HB
   have BK101 := n0_
   have HO108 := n1_
   have HB := n2_
   have HO113 := n3_
   clear n0_ n1_ n2_ n3_
   clear ho hb hg hat
   refine hK.out _ _ ⟨(blk_cell BK101.out 0).trans rfl, (blk_cell BK101.out 1).trans rfl⟩ (fun hHeld => ?_)
   clear hK K
   refine norm_ (a' := ?_) ?_ ?_
   rotate_left
   ·
    show Act.put _ (some 45) _ = _
    simp only [Act.put, List.setIfInBounds_toArray, List.set_cons_zero, List.set_cons_succ, i64_w, i32_w]
    rfl
   refine one_ (i := 4) (N := some 47) #[true, true, true, true, true, false, false, false, false, false, false, false] rfl rfl (one_of HT_.out (by kernel_rfl)) (by decide) (fun K hK => ?_)
   refine Kd.R_append_rows_step k58 (w0 := w) w.heap.size (by rfl) (.tmp 45) (.tmp 46) 47 58 (.agg #[(.string ⟨#[]⟩), (.int .i64 0), (.bool false)]) 32 rfl Tryz.underlying47 info58 rfl (by decide) (by omega) v112 y111 l2 _ _ _ (fun _ => True) (fun _ => False) rfl rfl ?aO ?aR (fun _ _ h => h) (fun _ h => h.elim) ?aF ?aB ?aS ?aL ?_
   (case aR => repeat (first | exact (Kd.C_below HR2.out HB.out) | (with_reducible refine Kd.C_alloc ?_ _) | (with_reducible refine Kd.C_drewN ?_ _) | (with_reducible refine Kd.C_drew ?_)))
   (case aB => exact (qzz0_))
   (case aF => exact (fun _ _ => trivial))
   (case aO => exact (qzz10_))
   (case aS => exact (below_size (qzz0_)))
   (case aL => have := LMc31.out; omega)
   intro v115 w51 ho hb hg hat
   rw [← Ny114.out] at ho
   have n0_ := Aside0.mk (blk_grown (g := gb101) (o := .cells #[.slice A0_0 l0_0.length c0_0, .int .i64 a0_1] 24 (0, 0)) (qzz2_) hg (Kd.R_ne HO113.out BK101.out (by decide)))
   have n1_ := Aside0.mk (Kd.R_over' (qzz3_) (Kd.R_typed (qzz10_)) (by decide) hg)
   have n2_ := Aside0.mk (hb)
   have n3_ := Aside0.mk (ho)
   clear BK101
   clear HO108
   clear HB
   clear HO113
   have BK101 := n0_
   have HO108 := n1_
   have HB := n2_
   have HO116 := n3_
   clear n0_ n1_ n2_ n3_
   clear ho hb hg hat
   obtain ⟨Ao52, co52, eo52⟩ := Kd.R_slice HO116.out
   (first | subst eo52 | (injection eo52 with f1_ f2_ f3_; have f4_ := f1_.symm; have f5_ := f3_.symm; clear f1_ f2_ f3_; subst f4_; subst f5_))
   refine hK.out _ _ ⟨(blk_cell BK101.out 0).trans rfl, (blk_cell BK101.out 1).trans rfl⟩ (fun hHeld => ?_)
   clear hK K
   refine norm_ (a' := ?_) ?_ ?_
   rotate_left
   ·
    show Act.put _ (some 47) _ = _
    simp only [Act.put, List.setIfInBounds_toArray, List.set_cons_zero, List.set_cons_succ, i64_w, i32_w]
    rfl
   refine one_ (i := 5) (N := some 48) #[true, true, true, true, true, true, false, false, false, false, false, false] rfl rfl (one_of HT_.out (by kernel_rfl)) (by decide) (fun K hK => ?_)
   refine goes_ Tryz.func26 (by kernel_rfl) rfl #[.slice Ao52 y114.length co52] (by rfl) rfl rfl (qzz4_) ?_
   with_reducible refine (grommetlaw16_theirs.calls kj3 _ _ y114 t117 _ ?side1 ?side2 (hG.below (qzz1_)) A32.out).mono ?_
   (case side1 => repeat (first | exact (Kd.R_reads' HO116.out).2.2 | (with_reducible refine Kd.C_alloc ?_ _) | (with_reducible refine Kd.C_drewN ?_ _) | (with_reducible refine Kd.C_drew ?_)))
   (case side2 => exact (Kd.R_reads' HO116.out).2.1)
   rintro e w53 ⟨v118, rfl, ho0, hb⟩
   refine ⟨_, rfl, ?_⟩
   have n0_ := Aside0.mk (Kd.R_elder' (qzz3_) (Kd.R_base ho0) hb)
   have n1_ := Aside0.mk (Kd.R_below (qzz6_) hb)
   have n2_ := Aside0.mk (Kd.R_lower (Kd.R_new' ho0 (Kd.R_lt (qzz3_))) (below_size (qzz0_)))
   have n3_ := Aside0.mk (blk_below (g := gb101) (o := .cells #[.slice A0_0 l0_0.length c0_0, .int .i64 a0_1] 24 (0, 0)) (qzz2_) hb)
   have n4_ := Aside0.mk (below_step (qzz0_) hb)
   clear HO108
   clear HO116
   clear BK101
   clear HB
   have HO108 := n0_
   have HO116 := n1_
   have HO119 := n2_
   have BK101 := n3_
   have HB := n4_
   clear n0_ n1_ n2_ n3_ n4_
   (try clear hb)
   (try clear hb2)
   (try clear hk)
   (try clear hi)
   (try clear ho0)
   obtain ⟨Ao54, co54, eo54⟩ := Kd.R_slice HO119.out
   (first | subst eo54 | (injection eo54 with f1_ f2_ f3_; have f4_ := f1_.symm; have f5_ := f3_.symm; clear f1_ f2_ f3_; subst f4_; subst f5_))
   refine hK.out _ _ ⟨(blk_cell BK101.out 0).trans rfl, (blk_cell BK101.out 1).trans rfl⟩ (fun hHeld => ?_)
   clear hK K
   refine norm_ (a' := ?_) ?_ ?_
   rotate_left
   ·
    show Act.put _ (some 48) _ = _
    simp only [Act.put, List.setIfInBounds_toArray, List.set_cons_zero, List.set_cons_succ, i64_w, i32_w]
    rfl
   refine one_ (i := 6) (N := some 49) #[true, true, true, true, true, true, true, false, false, false, false, false] rfl rfl (one_of HT_.out (by kernel_rfl)) (by decide) (fun K hK => ?_)
   refine goes_ Tryz.func25 (by kernel_rfl) rfl #[.agg #[.slice A0_0 l0_0.length c0_0, .int .i64 a0_1], .slice Ao54 t117.length co54] (by rfl) rfl rfl (qzz4_) ?_
   with_reducible refine (path_Get.calls kj3 _ _ l0_0 a0_1 _ _ t117 t120 t121 _ ?side1 ?side2 ?side3 ?side4 (hG.below (qzz1_)) A33.out).mono ?_
   (case side1 => repeat (first | exact (Kd.C_below HR0_0.out HB.out) | (with_reducible refine Kd.C_alloc ?_ _) | (with_reducible refine Kd.C_drewN ?_ _) | (with_reducible refine Kd.C_drew ?_)))
   (case side2 => exact HC0_0.out)
   (case side3 => repeat (first | exact (Kd.R_reads' HO119.out).2.2 | (with_reducible refine Kd.C_alloc ?_ _) | (with_reducible refine Kd.C_drewN ?_ _) | (with_reducible refine Kd.C_drew ?_)))
   (case side4 => exact (Kd.R_reads' HO119.out).2.1)
   rintro e w55 ⟨rfl, hb⟩
   refine ⟨_, rfl, ?_⟩
   have n0_ := Aside0.mk (Kd.R_below (qzz3_) hb)
   have n1_ := Aside0.mk (Kd.R_below (qzz6_) hb)
   have n2_ := Aside0.mk (Kd.R_below (qzz5_) hb)
   have n3_ := Aside0.mk (blk_below (g := gb101) (o := .cells #[.slice A0_0 l0_0.length c0_0, .int .i64 a0_1] 24 (0, 0)) (qzz2_) hb)
   have n4_ := Aside0.mk (below_step (qzz0_) hb)
   clear HO108
   clear HO116
   clear HO119
   clear BK101
   clear HB
   have HO108 := n0_
   have HO116 := n1_
   have HO119 := n2_
   have BK101 := n3_
   have HB := n4_
   clear n0_ n1_ n2_ n3_ n4_
   (try clear hb)
   (try clear hb2)
   (try clear hk)
   (try clear hi)
   refine hK.out _ _ ⟨(blk_cell BK101.out 0).trans rfl, (blk_cell BK101.out 1).trans rfl⟩ (fun hHeld => ?_)
   clear hK K
   refine norm_ (a' := ?_) ?_ ?_
   rotate_left
   ·
    show Act.put _ (some 49) _ = _
    simp only [Act.put, List.setIfInBounds_toArray, List.set_cons_zero, List.set_cons_succ, i64_w, i32_w]
    rfl
   refine pure_ (i := 7) (N := some 42) (v := ?_) (a' := ?_) #[true, true, true, true, true, true, true, true, false, false, false, false] rfl rfl (any_of HT_.out (by kernel_rfl)) (fun _ _ _ h => h) (Or.inl ⟨by rfl, ?_⟩) ?_ ?_
   rotate_left
   exact qzz21_
   rotate_left
   exact qzz22_
   refine pure_ (i := 8) (N := some 50) (v := ?_) (a' := ?_) #[true, true, true, true, true, true, true, true, true, false, false, false] rfl rfl (any_of HT_.out (by kernel_rfl)) (fun _ _ _ h => h) (Or.inl ⟨by rfl, ?_⟩) ?_ ?_
   rotate_left
   exact qzz21_
   rotate_left
   exact qzz22_
   refine pure_ (i := 9) (N := some 51) (v := ?_) (a' := ?_) #[true, true, true, true, true, true, true, true, true, true, false, false] rfl rfl (any_of HT_.out (by kernel_rfl)) (fun _ _ _ h => h) (Or.inl ⟨by rfl, ?_⟩) ?_ ?_
   rotate_left
   exact qzz21_
   rotate_left
   exact qzz22_
   refine pure_ (i := 10) (N := some 9) (v := ?_) (a' := ?_) #[true, true, true, true, true, true, true, true, true, true, true, false] rfl rfl (any_of HT_.out (by kernel_rfl)) (fun _ _ _ h => h) (Or.inl ⟨by rfl, ?_⟩) ?_ ?_
   rotate_left
   exact qzz21_
   rotate_left
   exact qzz22_
   refine pure_ (i := 11) (N := some 10) (v := ?_) (a' := ?_) #[true, true, true, true, true, true, true, true, true, true, true, true] rfl rfl (any_of HT_.out (by kernel_rfl)) (fun _ _ _ h => h) (Or.inl ⟨by rfl, ?_⟩) ?_ ?_
   rotate_left
   exact qzz21_
   rotate_left
   exact qzz22_
   refine done_ (done_of HT_.out (by kernel_rfl)) ?_
   try go_wp2_with (first | ((with_reducible refine gate_callee (f := 26) rfl ?_); refine goesL_ (some 54) rfl rfl Tryz.func26 (by kernel_rfl) rfl #[.slice A2 l2.length c2] rfl (qzz4_) ?_; (with_reducible refine (grommetlaw16_theirs.calls kj3 _ _ l2 t122 _ ?side1 ?side2 (hG.below (qzz1_)) A34.out).mono ?_); (case side1 => repeat (first | exact (Kd.C_below HR2.out HB.out) | (with_reducible refine Kd.C_alloc ?_ _) | (with_reducible refine Kd.C_drewN ?_ _) | (with_reducible refine Kd.C_drew ?_))); (case side2 => exact HC2.out); rintro e w56 ⟨v123, rfl, ho0, hb⟩; refine ⟨_, rfl, ?_⟩; have n0_ := Aside0.mk (Kd.R_elder' (qzz3_) (Kd.R_base ho0) hb); have n1_ := Aside0.mk (Kd.R_below (qzz6_) hb); have n2_ := Aside0.mk (Kd.R_elder' (qzz5_) (Kd.R_base ho0) hb); have n3_ := Aside0.mk (Kd.R_lower (Kd.R_new' (Kd.R_new' ho0 (Kd.R_lt (qzz3_))) (Kd.R_lt (qzz5_))) (below_size (qzz0_))); have n4_ := Aside0.mk (blk_below (g := gb101) (o := .cells #[.slice A0_0 l0_0.length c0_0, .int .i64 a0_1] 24 (0, 0)) (qzz2_) hb); have n5_ := Aside0.mk (below_step (qzz0_) hb); clear HO108; clear HO116; clear HO119; clear BK101; clear HB; have HO108 := n0_; have HO116 := n1_; have HO119 := n2_; have HO124 := n3_; have BK101 := n4_; have HB := n5_; clear n0_ n1_ n2_ n3_ n4_ n5_; (try clear hb); (try clear hk); (try clear ho0); obtain ⟨Ao57, co57, eo57⟩ := Kd.R_slice HO124.out; subst eo57) | ((with_reducible refine gate_callee (f := 28) rfl ?_); refine goesL_ (some 55) rfl rfl Tryz.func28 (by kernel_rfl) rfl #[.slice Ao57 t122.length co57] rfl (qzz4_) ?_; (with_reducible refine (path_Format.calls _ _ t122 t125 t126 _ ?side1 ?side2 (hG.below (qzz1_)) A35.out).mono ?_); (case side1 => repeat (first | exact (Kd.R_reads' HO124.out).2.2 | (with_reducible refine Kd.C_alloc ?_ _) | (with_reducible refine Kd.C_drewN ?_ _) | (with_reducible refine Kd.C_drew ?_))); (case side2 => exact (Kd.R_reads' HO124.out).2.1); rintro e w58 ⟨rfl, hb⟩; refine ⟨_, rfl, ?_⟩; have n0_ := Aside0.mk (Kd.R_below (qzz3_) hb); have n1_ := Aside0.mk (Kd.R_below (qzz6_) hb); have n2_ := Aside0.mk (Kd.R_below (qzz5_) hb); have n3_ := Aside0.mk (Kd.R_below (qzz8_) hb); have n4_ := Aside0.mk (blk_below (g := gb101) (o := .cells #[.slice A0_0 l0_0.length c0_0, .int .i64 a0_1] 24 (0, 0)) (qzz2_) hb); have n5_ := Aside0.mk (below_step (qzz0_) hb); clear HO108; clear HO116; clear HO119; clear HO124; clear BK101; clear HB; have HO108 := n0_; have HO116 := n1_; have HO119 := n2_; have HO124 := n3_; have BK101 := n4_; have HB := n5_; clear n0_ n1_ n2_ n3_ n4_ n5_; (try clear hb); (try clear hk); have hcz59_0 : w58.cell? ⟨gb101, 0, none⟩ = some (.slice A0_0 l0_0.length c0_0) := (blk_cell BK101.out 0).trans rfl; have hcz59_1 : w58.cell? ⟨gb101, 1, none⟩ = some (.int .i64 a0_1) := (blk_cell BK101.out 1).trans rfl; have hfz59_0 := blk_frozen BK101.out 0; have hfz59_1 := blk_frozen BK101.out 1) | ((with_reducible refine gate_dst (N := 13) rfl ?_); (try (refine gate_guard (by rfl) ?_; dsimp only)); refine box_event ?hg (N := 13) ?hd (cs := #[.slice none 0 0, .int .i64 0]) (t := 24) ?hr ?_; (case hd => rfl); (case hg => rfl); (case hr => first | (go_simp; done) | (go_simp; rfl)); intro gb129 hg w60 hbox hb; have n0_ := Aside0.mk (Kd.R_below (qzz3_) hb); have n1_ := Aside0.mk (Kd.R_below (qzz6_) hb); have n2_ := Aside0.mk (Kd.R_below (qzz5_) hb); have n3_ := Aside0.mk (Kd.R_below (qzz8_) hb); have n4_ := Aside0.mk (blk_below (g := gb101) (o := .cells #[.slice A0_0 l0_0.length c0_0, .int .i64 a0_1] 24 (0, 0)) (qzz2_) hb); have n5_ := Aside0.mk (below_step (qzz0_) hb); have n6_ := Aside0.mk (hbox); have n7_ := Aside0.mk ((by rw [hg]; exact (below_size (qzz0_)) : w.heap.size ≤ gb129)); have n8_ := Aside0.mk ((by rw [hg]; exact (below_size (qzz0_)) : w.heap.size ≤ gb129)); have n9_ := Aside0.mk ((by rw [hg]; exact Nat.ne_of_lt (blk_lt (g := gb101) (o := .cells #[.slice A0_0 l0_0.length c0_0, .int .i64 a0_1] 24 (0, 0)) (qzz2_)) : gb101 ≠ gb129)); have n10_ := Aside0.mk ((by rw [hg]; exact Nat.ne_of_gt (blk_lt (g := gb101) (o := .cells #[.slice A0_0 l0_0.length c0_0, .int .i64 a0_1] 24 (0, 0)) (qzz2_)) : gb129 ≠ gb101)); clear HO108; clear HO116; clear HO119; clear HO124; clear BK101; clear HB; have HO108 := n0_; have HO116 := n1_; have HO119 := n2_; have HO124 := n3_; have BK101 := n4_; have HB := n5_; have BK129 := n6_; have GW129 := n7_; have GE129 := n8_; have NB101_129 := n9_; have NB129_101 := n10_; clear n0_ n1_ n2_ n3_ n4_ n5_ n6_ n7_ n8_ n9_ n10_; clear hb hbox hg; have hnb61 := NB129_101.out; have hnc61 := NB101_129.out; have hcz62_0 : w60.cell? ⟨gb129, 0, none⟩ = some (.slice none 0 0) := (blk_cell BK129.out 0).trans rfl; have hcz62_1 : w60.cell? ⟨gb129, 1, none⟩ = some (.int .i64 0) := (blk_cell BK129.out 1).trans rfl; have hfz62_0 := blk_frozen BK129.out 0; have hfz62_1 := blk_frozen BK129.out 1; have hput_ : (((w60.setCell ⟨gb129, 0, none⟩ (.slice A0_0 l0_0.length c0_0)).setCell ⟨gb129, 1, none⟩ (.int .i64 a0_1)).setCell ⟨gb129, 1, none⟩ (.int .i64 t109)).cell? ⟨gb129, 1, none⟩ = some (.int .i64 t109) := (blk_cell (blk_put (blk_put (blk_put BK129.out 0 _ rfl) 1 _ rfl) 1 _ rfl) 1).trans rfl) | ((with_reducible refine gate_callee (f := 29) rfl ?_); refine goesL_ (some 85) rfl rfl Tryz.func29 (by kernel_rfl) rfl #[.agg #[.slice A0_0 l0_0.length c0_0, .int .i64 t109]] rfl (qzz4_) ?_; (with_reducible refine (graph_Right.calls _ _ l0_0 t109 true _ ?side1 ?side2 (hG.below (qzz1_)) A38.out).mono ?_); (case side1 => exact Kd.C_below HR0_0.out (qzz7_)); (case side2 => exact HC0_0.out); rintro e w63 ⟨rfl, hb⟩; refine ⟨_, rfl, ?_⟩; have n0_ := Aside0.mk (Kd.R_below (qzz15_) hb); have n1_ := Aside0.mk (Kd.R_below (qzz14_) hb); have n2_ := Aside0.mk (Kd.R_below (qzz13_) hb); have n3_ := Aside0.mk (Kd.R_below (qzz12_) hb); have n4_ := Aside0.mk (blk_below (g := gb101) (o := .cells #[.slice A0_0 l0_0.length c0_0, .int .i64 a0_1] 24 (0, 0)) (qzz11_) hb); have n5_ := Aside0.mk (blk_below (g := gb129) (o := .cells #[.slice A0_0 l0_0.length c0_0, .int .i64 t109] 24 (0, 0)) (qzz9_) hb); have n6_ := Aside0.mk (below_step (qzz7_) hb); clear HO108; clear HO116; clear HO119; clear HO124; clear BK101; clear BK129; clear HB; have HO108 := n0_; have HO116 := n1_; have HO119 := n2_; have HO124 := n3_; have BK101 := n4_; have BK129 := n5_; have HB := n6_; clear n0_ n1_ n2_ n3_ n4_ n5_ n6_; (try clear hb); (try clear hk)))
   have n0_ := Aside0.mk (Kd.R_drew HO108.out)
   have n1_ := Aside0.mk (Kd.R_drew HO116.out)
   have n2_ := Aside0.mk (Kd.R_drew HO119.out)
   have n3_ := Aside0.mk (Kd.R_drew HO124.out)
   have n4_ := Aside0.mk (blk_drew BK101.out)
   have n5_ := Aside0.mk (blk_drew BK129.out)
   have n6_ := Aside0.mk (below_drew1 HB.out)
   clear HO108
   clear HO116
   clear HO119
   clear HO124
   clear BK101
   clear BK129
   clear HB
   have HO108 := n0_
   have HO116 := n1_
   have HO119 := n2_
   have HO124 := n3_
   have BK101 := n4_
   have BK129 := n5_
   have HB := n6_
   clear n0_ n1_ n2_ n3_ n4_ n5_ n6_
   refine start_ (n := 9) (S := fun w' => w'.cell? ⟨gb129, 0, none⟩ = some (.slice A0_0 l0_0.length c0_0) ∧ w'.cell? ⟨gb129, 1, none⟩ = some (.int .i64 t109)) (ds := []) #[false, false, false, false, false, false, false, false, false] (by kernel_rfl) rfl rfl ⟨(blk_cell BK129.out 0).trans rfl, (blk_cell BK129.out 1).trans rfl⟩ (fun hHeld => ?_); refine with_tabW grommetlaw16_PathOn.tab14 grommetlaw16_PathOn.bits14 (fun HT_ HW_ => ?_)
   generalize w63.drew = w64 at HO108 HO116 HO119 HO124 BK101 BK129 HB hHeld ⊢
   refine pure_ (i := 1) (N := some 89) (v := ?_) (a' := ?_) #[false, true, false, false, false, false, false, false, false] rfl rfl (any_of HT_.out (by kernel_rfl)) (fun _ _ _ h => h) (Or.inl ⟨by rfl, ?_⟩) ?_ ?_
   rotate_left
   exact qzz21_
   rotate_left
   exact qzz22_
   refine take_ (i := 0) (N := some 88) (v := ?_) (a' := ?_) #[true, true, false, false, false, false, false, false, false] rfl rfl (take_ofW HT_.out HW_.out (by kernel_rfl)) (fun _ _ _ h => h) (Or.inl ⟨by rfl, ?_⟩) hHeld ?_ ?_
   rotate_left
   exact qzz23_
   rotate_left
   exact qzz22_
   refine one_ (i := 2) (N := some 90) #[true, true, true, false, false, false, false, false, false] rfl rfl (one_of HT_.out (by kernel_rfl)) (by decide) (fun K hK => ?_)
   refine goes_ Tryz.func26 (by kernel_rfl) rfl #[.slice A2 l2.length c2] (by rfl) rfl rfl (qzz4_) ?_
   with_reducible refine (grommetlaw16_theirs.calls kj3 _ _ l2 t131 _ ?side1 ?side2 (hG.below (qzz1_)) A40.out).mono ?_
   (case side1 => repeat (first | exact (Kd.C_below HR2.out HB.out) | (with_reducible refine Kd.C_alloc ?_ _) | (with_reducible refine Kd.C_drewN ?_ _) | (with_reducible refine Kd.C_drew ?_)))
   (case side2 => exact HC2.out)
   rintro e w65 ⟨v132, rfl, ho0, hb⟩
   refine ⟨_, rfl, ?_⟩
   have n0_ := Aside0.mk (Kd.R_elder' (qzz3_) (Kd.R_base ho0) hb)
   have n1_ := Aside0.mk (Kd.R_below (qzz6_) hb)
   have n2_ := Aside0.mk (Kd.R_elder' (qzz5_) (Kd.R_base ho0) hb)
   have n3_ := Aside0.mk (Kd.R_elder' (qzz8_) (Kd.R_base ho0) hb)
   have n4_ := Aside0.mk (Kd.R_lower (Kd.R_new' (Kd.R_new' (Kd.R_new' ho0 (Kd.R_lt (qzz3_))) (Kd.R_lt (qzz5_))) (Kd.R_lt (qzz8_))) (below_size (qzz7_)))
   have n5_ := Aside0.mk (blk_below (g := gb101) (o := .cells #[.slice A0_0 l0_0.length c0_0, .int .i64 a0_1] 24 (0, 0)) (qzz2_) hb)
   have n6_ := Aside0.mk (blk_below (g := gb129) (o := .cells #[.slice A0_0 l0_0.length c0_0, .int .i64 t109] 24 (0, 0)) (qzz17_) hb)
   have n7_ := Aside0.mk (below_step (qzz7_) hb)
   clear HO108
   clear HO116
   clear HO119
   clear HO124
   clear BK101
   clear BK129
   clear HB
   have HO108 := n0_
   have HO116 := n1_
   have HO119 := n2_
   have HO124 := n3_
   have HO133 := n4_
   have BK101 := n5_
   have BK129 := n6_
   have HB := n7_
   clear n0_ n1_ n2_ n3_ n4_ n5_ n6_ n7_
   (try clear hb)
   (try clear hb2)
   (try clear hk)
   (try clear hi)
   (try clear ho0)
   obtain ⟨Ao66, co66, eo66⟩ := Kd.R_slice HO133.out
   (first | subst eo66 | (injection eo66 with f1_ f2_ f3_; have f4_ := f1_.symm; have f5_ := f3_.symm; clear f1_ f2_ f3_; subst f4_; subst f5_))
   refine hK.out _ _ ⟨(blk_cell BK129.out 0).trans rfl, (blk_cell BK129.out 1).trans rfl⟩ (fun hHeld => ?_)
   clear hK K
   refine norm_ (a' := ?_) ?_ ?_
   rotate_left
   ·
    show Act.put _ (some 90) _ = _
    simp only [Act.put, List.setIfInBounds_toArray, List.set_cons_zero, List.set_cons_succ, i64_w, i32_w]
    rfl
   refine one_ (i := 3) (N := some 91) #[true, true, true, true, false, false, false, false, false] rfl rfl (one_of HT_.out (by kernel_rfl)) (by decide) (fun K hK => ?_)
   refine goes_ Tryz.func25 (by kernel_rfl) rfl #[.agg #[.slice A0_0 l0_0.length c0_0, .int .i64 t109], .slice Ao66 t131.length co66] (by rfl) rfl rfl (qzz4_) ?_
   with_reducible refine (path_Get.calls kj3 _ _ l0_0 t109 _ _ t131 t134 t135 _ ?side1 ?side2 ?side3 ?side4 (hG.below (qzz1_)) A41.out).mono ?_
   (case side1 => repeat (first | exact (Kd.C_below HR0_0.out HB.out) | (with_reducible refine Kd.C_alloc ?_ _) | (with_reducible refine Kd.C_drewN ?_ _) | (with_reducible refine Kd.C_drew ?_)))
   (case side2 => exact HC0_0.out)
   (case side3 => repeat (first | exact (Kd.R_reads' HO133.out).2.2 | (with_reducible refine Kd.C_alloc ?_ _) | (with_reducible refine Kd.C_drewN ?_ _) | (with_reducible refine Kd.C_drew ?_)))
   (case side4 => exact (Kd.R_reads' HO133.out).2.1)
   rintro e w67 ⟨rfl, hb⟩
   refine ⟨_, rfl, ?_⟩
   have n0_ := Aside0.mk (Kd.R_below (qzz3_) hb)
   have n1_ := Aside0.mk (Kd.R_below (qzz6_) hb)
   have n2_ := Aside0.mk (Kd.R_below (qzz5_) hb)
   have n3_ := Aside0.mk (Kd.R_below (qzz8_) hb)
   have n4_ := Aside0.mk (Kd.R_below (qzz18_) hb)
   have n5_ := Aside0.mk (blk_below (g := gb101) (o := .cells #[.slice A0_0 l0_0.length c0_0, .int .i64 a0_1] 24 (0, 0)) (qzz2_) hb)
   have n6_ := Aside0.mk (blk_below (g := gb129) (o := .cells #[.slice A0_0 l0_0.length c0_0, .int .i64 t109] 24 (0, 0)) (qzz17_) hb)
   have n7_ := Aside0.mk (below_step (qzz7_) hb)
   clear HO108
   clear HO116
   clear HO119
   clear HO124
   clear HO133
   clear BK101
   clear BK129
   clear HB
   have HO108 := n0_
   have HO116 := n1_
   have HO119 := n2_
   have HO124 := n3_
   have HO133 := n4_
   have BK101 := n5_
   have BK129 := n6_
   have HB := n7_
   clear n0_ n1_ n2_ n3_ n4_ n5_ n6_ n7_
   (try clear hb)
   (try clear hb2)
   (try clear hk)
   (try clear hi)
   refine hK.out _ _ ⟨(blk_cell BK129.out 0).trans rfl, (blk_cell BK129.out 1).trans rfl⟩ (fun hHeld => ?_)
   clear hK K
   refine norm_ (a' := ?_) ?_ ?_
   rotate_left
   ·
    show Act.put _ (some 91) _ = _
    simp only [Act.put, List.setIfInBounds_toArray, List.set_cons_zero, List.set_cons_succ, i64_w, i32_w]
    rfl
   refine pure_ (i := 4) (N := some 87) (v := ?_) (a' := ?_) #[true, true, true, true, true, false, false, false, false] rfl rfl (any_of HT_.out (by kernel_rfl)) (fun _ _ _ h => h) (Or.inl ⟨by rfl, ?_⟩) ?_ ?_
   rotate_left
   exact qzz21_
   rotate_left
   exact qzz22_
   refine pure_ (i := 5) (N := some 92) (v := ?_) (a' := ?_) #[true, true, true, true, true, true, false, false, false] rfl rfl (any_of HT_.out (by kernel_rfl)) (fun _ _ _ h => h) (Or.inl ⟨by rfl, ?_⟩) ?_ ?_
   rotate_left
   exact qzz21_
   rotate_left
   exact qzz22_
   refine pure_ (i := 6) (N := some 93) (v := ?_) (a' := ?_) #[true, true, true, true, true, true, true, false, false] rfl rfl (any_of HT_.out (by kernel_rfl)) (fun _ _ _ h => h) (Or.inl ⟨by rfl, ?_⟩) ?_ ?_
   rotate_left
   exact qzz21_
   rotate_left
   exact qzz22_
   refine pure_ (i := 7) (N := some 14) (v := ?_) (a' := ?_) #[true, true, true, true, true, true, true, true, false] rfl rfl (any_of HT_.out (by kernel_rfl)) (fun _ _ _ h => h) (Or.inl ⟨by rfl, ?_⟩) ?_ ?_
   rotate_left
   exact qzz21_
   rotate_left
   exact qzz22_
   refine pure_ (i := 8) (N := some 15) (v := ?_) (a' := ?_) #[true, true, true, true, true, true, true, true, true] rfl rfl (any_of HT_.out (by kernel_rfl)) (fun _ _ _ h => h) (Or.inl ⟨by rfl, ?_⟩) ?_ ?_
   rotate_left
   exact qzz21_
   rotate_left
   exact qzz22_
   refine done_ (done_of HT_.out (by kernel_rfl)) ?_
   try go_wp2_with (first | (go_at_call 24; (with_reducible refine (grommetlaw16_alive.calls  t136 _ (hG.below (qzz1_)) A44.out).mono ?_); rintro e w68 ⟨rfl, hb⟩; have n0_ := Aside0.mk (Kd.R_below (qzz3_) hb); have n1_ := Aside0.mk (Kd.R_below (qzz6_) hb); have n2_ := Aside0.mk (Kd.R_below (qzz5_) hb); have n3_ := Aside0.mk (Kd.R_below (qzz8_) hb); have n4_ := Aside0.mk (Kd.R_below (qzz18_) hb); have n5_ := Aside0.mk (blk_below (g := gb101) (o := .cells #[.slice A0_0 l0_0.length c0_0, .int .i64 a0_1] 24 (0, 0)) (qzz2_) hb); have n6_ := Aside0.mk (blk_below (g := gb129) (o := .cells #[.slice A0_0 l0_0.length c0_0, .int .i64 t109] 24 (0, 0)) (qzz17_) hb); have n7_ := Aside0.mk (below_step (qzz7_) hb); clear HO108; clear HO116; clear HO119; clear HO124; clear HO133; clear BK101; clear BK129; clear HB; have HO108 := n0_; have HO116 := n1_; have HO119 := n2_; have HO124 := n3_; have HO133 := n4_; have BK101 := n5_; have BK129 := n6_; have HB := n7_; clear n0_ n1_ n2_ n3_ n4_ n5_ n6_ n7_; (try clear hb); (try clear hk)))
   go_ret
   exact ⟨qzz16_, qzz7_⟩
end Go.Proofs.YtiooacmplmcphaaGreatDoor.PX

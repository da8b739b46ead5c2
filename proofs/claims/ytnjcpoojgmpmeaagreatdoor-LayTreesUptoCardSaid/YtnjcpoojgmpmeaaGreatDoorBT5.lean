/- Texts that stand behind one another, laid into one: what this claim needs of them. -/
import Derived.Test.YtnjcpoojgmpmeaaGreatDoorBT0
import Derived.Test.YtnjcpoojgmpmeaaGreatDoorBT4
namespace Go.Proofs.YtnjcpoojgmpmeaaGreatDoor.PX
open RowKit YtnjcpoojgmpmeaaGreatDoorW.PrintWords YtnjcpoojgmpmeaaGreatDoorW.PrintLast YtnjcpoojgmpmeaaGreatDoorW.PrintMore YtnjcpoojgmpmeaaGreatDoor YtnjcpoojgmpmeaaGreatDoor.Plug
attribute [local go_sem] max2_int min2_int max_two min_two max_three min_three max_four min_four   -- for this text's walks alone
set_option linter.unusedVariables false
set_option linter.unusedSimpArgs false
mutual
def grommetref12_Right.j0 : Nat → Bool → List (S45) → Int → Option (Bool)
  | 0, _, _, _ => none
  | k + 1, x29, x102000, x102001 => if x29 = true then (some false) else (grommetref12_Right.l0 k 0 x102000 x102001)
def grommetref12_Right.l0 : Nat → Int → List (S45) → Int → Option (Bool)
  | 0, _, _, _ => none
  | k + 1, x3, x102000, x102001 => if x3 < (x102000.length : Int) then (if 0 ≤ x3 then ((grommetref12_node.f x102000 x102001 ((rd_T45 x102000 x3).f0) ((rd_T45 x102000 x3).f1) ((rd_T45 x102000 x3).f2)).bind fun t103 => (if t103 = true then (grommetref12_Right.l0 k (wrap64 (x3 + 1)) x102000 x102001) else (some false))) else (none)) else ((grommetref12_uses.f k x102000 x102001).bind fun bt104 => (grommetref12_Right.l1 k bt104.1 bt104.2 0 x102000 x102001))
def grommetref12_Right.l1 : Nat → List Int → List Bool → Int → List (S45) → Int → Option (Bool)
  | 0, _, _, _, _, _ => none
  | k + 1, x4, x5, x6, x102000, x102001 => if x6 < (x102000.length : Int) then (if 0 ≤ x6 then (if x6 < (x5.length : Int) then (if rdOf false x5 x6 = true then (if x6 < (x4.length : Int) then (if (rd x4 x6) > 1 then (some false) else (if x6 = x102001 then (some false) else (grommetref12_Right.l1 k x4 x5 (wrap64 (x6 + 1)) x102000 x102001))) else (none)) else (grommetref12_Right.l1 k x4 x5 (wrap64 (x6 + 1)) x102000 x102001)) else (none)) else (none)) else (some true)
end
def grommetref12_Right.f (k : Nat) (l0_0 : List (S45)) (a0_1 : Int) : Option (Bool) := if (l0_0.length : Int) < 1 then (grommetref12_Right.j0 k true l0_0 a0_1) else (if (l0_0.length : Int) > 4096 then (grommetref12_Right.j0 k true l0_0 a0_1) else (if a0_1 < 0 then (grommetref12_Right.j0 k true l0_0 a0_1) else (grommetref12_Right.j0 k (decide (a0_1 ≥ (l0_0.length : Int))) l0_0 a0_1)))
def grommetref12_Right.T6 : Bool × List (List Nat × List Nat) := (true, [([], []), ([], []), ([1], [1]), ([], []), ([2, 3], [2, 3]), ([4], [4]), ([0, 5], [0, 5]), ([6], [6])])
def grommetref12_Right.B6 : List Nat := [0, 0, 2, 0, 14, 30, 63, 127]
theorem grommetref12_Right.tab6 : rtab .any (opsOf Tryz.f47 6) = grommetref12_Right.T6 := by kernel_rfl
theorem grommetref12_Right.bits6 : waitsOk grommetref12_Right.T6.2 grommetref12_Right.B6 = true := by kernel_rfl
theorem qxa0_ {P : Prop} (h_ : P := by repeat (first | (with_reducible first | exact HB.out | apply below_alloc | apply pw_below_drewN | apply below_drew1 | refine below_set ?_ GE101.out) | exact HB.out)) : P := h_
theorem qxa1_ {P : Prop} (h_ : P := by (with_reducible repeat (first | refine blk_drewN ?_ _ | refine blk_drew ?_ | refine blk_alloc ?_ _)); exact BK101.out) : P := h_
theorem qxa2_ {P : Prop} (h_ : P := by first | (with_reducible assumption) | assumption) : P := h_
theorem qxa3_ {P : Prop} (h_ : P := by first | ((repeat (first | (with_reducible first | exact HB.out | apply below_alloc | apply pw_below_drewN | apply below_drew1 | (refine Glob.below_set ?_ (by assumption) _ _ _)) | exact HB.out)); done) | (refine Drawn0.below ?_; repeat (first | exact Drawn0.refl _ | assumption | apply Drawn0.step))) : P := h_
theorem qxa4_ {P : Prop} (h_ : P := by first | rfl | (simp [errW_none, errW_some] <;> rfl) | (simp [*, errW_none, errW_some] <;> rfl)) : P := h_
theorem qxa5_ {P : Prop} (h_ : P := by first | rfl | (simp; done) | (simp [*]; done)) : P := h_
theorem qxa6_ {P : Prop} (h_ : P := by first | exact H' | (rw [← Nbq28.out]; exact H')) : P := h_
theorem qxa7_ {P : Prop} (h_ : P := by (try simp only [List.map_toArray, List.map_cons, List.map_nil]); first | done | rfl | (simp only [List.length_drop, List.length_take]; rfl)) : P := h_
theorem qxa8_ {P : Prop} (h_ : P := by repeat (first | (with_reducible first | exact HB.out | apply below_alloc | apply pw_below_drewN | apply below_drew1) | exact HB.out)) : P := h_
theorem qxa9_ {P : Prop} (h_ : P := by repeat (first | exact (Kd.C_below HR0_0.out HB.out) | (with_reducible refine Kd.C_alloc ?_ _) | (with_reducible refine Kd.C_drewN ?_ _) | (with_reducible refine Kd.C_drew ?_))) : P := h_
theorem qxa10_ {P : Prop} (h_ : P := by intro w'; go_simp; with_reducible rfl) : P := h_
theorem qxa11_ {P : Prop} (h_ : P := by simp only [Act.put, List.setIfInBounds_toArray, List.set_cons_zero, List.set_cons_succ, i64_w, i32_w]; rfl) : P := h_
theorem qxa12_ {P : Prop} (h_ : P := by rintro w' ⟨s0, s1, s2, s3, s4⟩; go_simp; with_reducible rfl) : P := h_
set_option maxHeartbeats 8000000 in
set_option maxRecDepth 100000 in
theorem grommetref12_Right.calls (k : Nat) (A0_0 : Option Addr) (c0_0 : Nat) (l0_0 : List (S45)) (a0_1 : Int) (r : Bool) (w : World) (hr0_0 : Kd.C k45 w A0_0 l0_0.length l0_0) (hc0_0 : l0_0.length ≤ c0_0) (hG : Glob.G w) (h : grommetref12_Right.f k l0_0 a0_1 = some r) :
  Calls Tryz.prog 47 #[.agg #[.slice A0_0 l0_0.length c0_0, .int .i64 a0_1]] w fun e w' => e = .returned (.bool r) ∧ Below w.heap.size w w' := by
 have hu24 := Tryz.underlying24
 have hu45 := Tryz.underlying45
 have HR0_0 := Aside0.mk hr0_0
 have HC0_0 := Aside0.mk hc0_0
 clear hr0_0 hc0_0
 have HB := Aside0.mk (Below.refl w.heap.size w)
 have H : (if (l0_0.length : Int) < 1 then (grommetref12_Right.j0 k true l0_0 a0_1) else (if (l0_0.length : Int) > 4096 then (grommetref12_Right.j0 k true l0_0 a0_1) else (if a0_1 < 0 then (grommetref12_Right.j0 k true l0_0 a0_1) else (grommetref12_Right.j0 k (decide (a0_1 ≥ (l0_0.length : Int))) l0_0 a0_1)))) = some r := h
 clear h
 have HC2 := Aside0.mk H
 clear H
 go_enter Tryz.func47, Tryz.ntmps47
 go_upto_region 1 with (first | ((with_reducible refine gate_dst (N := 1) rfl ?_); (try (refine gate_guard (by rfl) ?_; dsimp only)); refine box_event ?hg (N := 1) ?hd (cs := #[.slice A0_0 l0_0.length c0_0, .int .i64 a0_1]) (t := 24) ?hr ?_; (case hd => rfl); (case hg => rfl); (case hr => first | (go_simp; done) | (go_simp; rfl)); intro gb101 hg w3 hbox hb; have n0_ := Aside0.mk (below_step (qxa8_) hb); have n1_ := Aside0.mk (hbox); have n2_ := Aside0.mk ((by rw [hg]; exact (below_size (qxa8_)) : w.heap.size ≤ gb101)); have n3_ := Aside0.mk ((by rw [hg]; exact (below_size (qxa8_)) : w.heap.size ≤ gb101)); clear HB; have HB := n0_; have BK101 := n1_; have GW101 := n2_; have GE101 := n3_; clear n0_ n1_ n2_ n3_; clear hb hbox hg))
 (try simp only [Act.put, List.setIfInBounds_toArray, List.set_cons_zero, List.set_cons_succ])
 go_cut [29] (fun v29 wc => ∃ (kq : Nat) (x29_1 : Bool), v29 = .bool x29_1 ∧ Aside0 (grommetref12_Right.j0 kq x29_1 l0_0 a0_1 = some r) ∧ Aside0 (kq ≤ k) ∧ Aside0 (wc.heap[gb101]? = some (.cells #[(.slice A0_0 l0_0.length c0_0), .int .i64 a0_1] 24 (0, 0))) ∧ Aside0 (Below w.heap.size w wc))
 case first =>
  have H := HC2.out
  clear HC2
  by_cases c4 : (l0_0.length : Int) < 1
  ·
   rw [if_pos c4] at H
   have c4b0 : decide ((l0_0.length : Int) < 1) = true := decide_eq_true c4
   have c4b1 : decide (l0_0.length < 1) = true := decide_eq_true (by omega)
   clear c4
   (first | rw [c4b0] | (simp only [i64_w, i32_w]; rw [c4b0]) | skip)
   have H' := Aside0.mk H
   clear H
   have hcz5_0 : w3.cell? ⟨gb101, 0, none⟩ = some (.slice A0_0 l0_0.length c0_0) := (blk_cell BK101.out 0).trans rfl
   have hcz5_1 : w3.cell? ⟨gb101, 1, none⟩ = some (.int .i64 a0_1) := (blk_cell BK101.out 1).trans rfl
   have hfz5_0 := blk_frozen BK101.out 0
   have hfz5_1 := blk_frozen BK101.out 1
   go_wp2
   go_meet
   case rel => exact ⟨_, (true), (qxa5_), (qxa6_), ⟨by first | omega | exact Nat.le_refl _⟩, ⟨qxa1_⟩, ⟨qxa0_⟩⟩
  rw [if_neg c4] at H
  have c4b0 : decide ((l0_0.length : Int) < 1) = false := decide_eq_false c4
  have c4b1 : decide (l0_0.length < 1) = false := decide_eq_false (by omega)
  clear c4
  (first | rw [c4b0] | (simp only [i64_w, i32_w]; rw [c4b0]) | skip)
  by_cases c6 : (l0_0.length : Int) > 4096
  ·
   rw [if_pos c6] at H
   have c6b0 : decide (4096 < (l0_0.length : Int)) = true := decide_eq_true c6
   have c6b1 : decide (4096 < l0_0.length) = true := decide_eq_true (by omega)
   clear c6
   have H' := Aside0.mk H
   clear H
   have hcz7_0 : w3.cell? ⟨gb101, 0, none⟩ = some (.slice A0_0 l0_0.length c0_0) := (blk_cell BK101.out 0).trans rfl
   have hcz7_1 : w3.cell? ⟨gb101, 1, none⟩ = some (.int .i64 a0_1) := (blk_cell BK101.out 1).trans rfl
   have hfz7_0 := blk_frozen BK101.out 0
   have hfz7_1 := blk_frozen BK101.out 1
   go_wp2
   go_meet
   case rel => exact ⟨_, (true), (qxa5_), (qxa6_), ⟨by first | omega | exact Nat.le_refl _⟩, ⟨qxa1_⟩, ⟨qxa0_⟩⟩
  rw [if_neg c6] at H
  have c6b0 : decide (4096 < (l0_0.length : Int)) = false := decide_eq_false c6
  have c6b1 : decide (4096 < l0_0.length) = false := decide_eq_false (by omega)
  clear c6
  by_cases c8 : a0_1 < 0
  ·
   rw [if_pos c8] at H
   have c8b0 : decide (a0_1 < 0) = true := decide_eq_true c8
   clear c8
   have H' := Aside0.mk H
   clear H
   have hcz9_0 : w3.cell? ⟨gb101, 0, none⟩ = some (.slice A0_0 l0_0.length c0_0) := (blk_cell BK101.out 0).trans rfl
   have hcz9_1 : w3.cell? ⟨gb101, 1, none⟩ = some (.int .i64 a0_1) := (blk_cell BK101.out 1).trans rfl
   have hfz9_0 := blk_frozen BK101.out 0
   have hfz9_1 := blk_frozen BK101.out 1
   go_wp2
   go_meet
   case rel => exact ⟨_, (true), (qxa5_), (qxa6_), ⟨by first | omega | exact Nat.le_refl _⟩, ⟨qxa1_⟩, ⟨qxa0_⟩⟩
  rw [if_neg c8] at H
  have c8b0 : decide (a0_1 < 0) = false := decide_eq_false c8
  clear c8
  have H' := Aside0.mk H
  clear H
  have hcz10_0 : w3.cell? ⟨gb101, 0, none⟩ = some (.slice A0_0 l0_0.length c0_0) := (blk_cell BK101.out 0).trans rfl
  have hcz10_1 : w3.cell? ⟨gb101, 1, none⟩ = some (.int .i64 a0_1) := (blk_cell BK101.out 1).trans rfl
  have hfz10_0 := blk_frozen BK101.out 0
  have hfz10_1 := blk_frozen BK101.out 1
  go_wp2
  go_meet
  case rel => exact ⟨_, (decide (a0_1 ≥ (l0_0.length : Int))), (qxa5_), (qxa6_), ⟨by first | omega | exact Nat.le_refl _⟩, ⟨qxa1_⟩, ⟨qxa0_⟩⟩
 case rest =>
  clear HC2
  try clear p2
  try clear c4
  try clear c4b0
  try clear c4b1
  try clear c6
  try clear c6b0
  try clear c6b1
  try clear c8
  try clear c8b0
  try clear hcz10_0
  try clear hcz10_1
  try clear hcz5_0
  try clear hcz5_1
  try clear hcz7_0
  try clear hcz7_1
  try clear hcz9_0
  try clear hcz9_1
  try clear hfz10_0
  try clear hfz10_1
  try clear hfz5_0
  try clear hfz5_1
  try clear hfz7_0
  try clear hfz7_1
  try clear hfz9_0
  try clear hfz9_1
  obtain ⟨kq, x29_1, rfl, HA, HJ1, BK101, HB⟩ := hcut
  cases kq with
  | zero => exact absurd HA.out (by simp [grommetref12_Right.j0])
  | succ kj1 =>
   have H := HA.out
   clear HA
   simp only [grommetref12_Right.j0] at H
   by_cases c11 : x29_1 = true
   ·
    subst c11
    have H1 : (some false) = some r := by rw [if_pos rfl] at H; exact H
    clear H
    have H := H1
    clear H1
    obtain rfl := Option.some.inj H
    go_wp2
    go_ret
    exact ⟨qxa4_, qxa0_⟩
   replace c11 := Bool.eq_false_iff.mpr c11
   subst c11
   have H1 : (grommetref12_Right.l0 kj1 0 l0_0 a0_1) = some r := by rw [if_neg (show ¬ (false = true) by decide)] at H; exact H
   clear H
   have H := H1
   clear H1
   have H' := Aside0.mk H
   clear H
   go_wp2
   go_loopg [3] kj1 (fun kq v3 w' => ∃ (x3_2 : Int), v3 = .int .i64 x3_2 ∧ Aside0 (grommetref12_Right.l0 kq x3_2 l0_0 a0_1 = some r) ∧ Aside0 (kq ≤ kj1) ∧ Aside0 (w'.heap[gb101]? = some (.cells #[(.slice A0_0 l0_0.length c0_0), .int .i64 a0_1] 24 (0, 0))) ∧ Aside0 (Below w.heap.size w w'))
   case atStart => exact ⟨(0), (qxa5_), H', ⟨Nat.le_refl _⟩, ⟨qxa1_⟩, ⟨qxa0_⟩⟩
   case round =>
    clear H'
    try clear c1
    try clear p2
    try clear c4
    try clear c4b0
    try clear c4b1
    try clear c6
    try clear c6b0
    try clear c6b1
    try clear c8
    try clear c8b0
    try clear c11
    try clear hcz10_0
    try clear hcz10_1
    try clear hcz5_0
    try clear hcz5_1
    try clear hcz7_0
    try clear hcz7_1
    try clear hcz9_0
    try clear hcz9_1
    try clear hfz10_0
    try clear hfz10_1
    try clear hfz5_0
    try clear hfz5_1
    try clear hfz7_0
    try clear hfz7_1
    try clear hfz9_0
    try clear hfz9_1
    try clear p2
    obtain ⟨x3_2, rfl, HA, HK2, BK101, HB⟩ := hrel
    cases gk with
    | zero => exact absurd HA.out (by simp [grommetref12_Right.l0])
    | succ k2 =>
     have H := HA.out
     clear HA
     simp only [grommetref12_Right.l0] at H
     by_cases c12 : x3_2 < (l0_0.length : Int)
     rotate_left
     ·
      rw [if_neg c12] at H
      have c12b0 : decide (x3_2 < (l0_0.length : Int)) = false := decide_eq_false c12
      clear c12
      replace H := Option.bind_eq_some_iff.mp H
      obtain ⟨⟨t104, t107⟩, A220, H⟩ := H
      replace H : (grommetref12_Right.l1 k2 t104 t107 0 l0_0 a0_1) = some r := H
      have A22 := Aside0.mk A220
      clear A220
      have H' := Aside0.mk H
      clear H
      have hcz23_0 : wr.cell? ⟨gb101, 0, none⟩ = some (.slice A0_0 l0_0.length c0_0) := (blk_cell BK101.out 0).trans rfl
      have hcz23_1 : wr.cell? ⟨gb101, 1, none⟩ = some (.int .i64 a0_1) := (blk_cell BK101.out 1).trans rfl
      have hfz23_0 := blk_frozen BK101.out 0
      have hfz23_1 := blk_frozen BK101.out 1
      go_wp2_with (first | ((with_reducible refine gate_callee (f := 69) rfl ?_); refine goesL_ (some 47) rfl rfl Tryz.func69 (by kernel_rfl) rfl #[.agg #[.slice A0_0 l0_0.length c0_0, .int .i64 a0_1]] rfl (qxa7_) ?_; (with_reducible refine (grommetref12_uses.calls k2 _ _ l0_0 a0_1 t104 t107 _ ?side1 ?side2 (hG.below (qxa3_)) A22.out).mono ?_); (case side1 => exact qxa9_); (case side2 => exact HC0_0.out); rintro e w24 ⟨v105, v108, rfl, ho0, ho1, hb⟩; refine ⟨_, rfl, ?_⟩; have n0_ := Aside0.mk (Kd.R_lower ho0 (below_size (qxa0_))); have n1_ := Aside0.mk (Kd.R_lower ho1 (below_size (qxa0_))); have n2_ := Aside0.mk (blk_below (g := gb101) (o := .cells #[.slice A0_0 l0_0.length c0_0, .int .i64 a0_1] 24 (0, 0)) (qxa1_) hb); have n3_ := Aside0.mk (below_step (qxa0_) hb); clear BK101; clear HB; have HO106 := n0_; have HO109 := n1_; have BK101 := n2_; have HB := n3_; clear n0_ n1_ n2_ n3_; (try clear hb); (try clear ho0); (try clear ho1)))
      go_loopg [6] k2 (fun kq v6 w' => ∃ (x6_3 : Int), v6 = .int .i64 x6_3 ∧ Aside0 (grommetref12_Right.l1 kq t104 t107 x6_3 l0_0 a0_1 = some r) ∧ Aside0 (kq ≤ k2) ∧ Aside0 (Kd.R (Kd.int .i64) 3 w' w.heap.size (fun _ => True) v105 t104) ∧ Aside0 (Kd.R Kd.bool 4 w' w.heap.size (fun _ => True) v108 t107) ∧ Aside0 (w'.heap[gb101]? = some (.cells #[(.slice A0_0 l0_0.length c0_0), .int .i64 a0_1] 24 (0, 0))) ∧ Aside0 (Below w.heap.size w w'))
      case atStart => exact ⟨(0), (qxa5_), H', ⟨Nat.le_refl _⟩, ⟨by (with_reducible repeat (first | apply Kd.R_alloc | apply Kd.R_drewN | apply Kd.R_drew)); exact HO106.out⟩, ⟨by (with_reducible repeat (first | apply Kd.R_alloc | apply Kd.R_drewN | apply Kd.R_drew)); exact HO109.out⟩, ⟨qxa1_⟩, ⟨qxa0_⟩⟩
      case round =>
       clear H'
       try clear c1
       try clear p1
       try clear q1
       try clear hx1
       try clear p2
       try clear c4
       try clear c4b0
       try clear c4b1
       try clear c6
       try clear c6b0
       try clear c6b1
       try clear p6
       try clear c8
       try clear c8b0
       try clear c10
       try clear p10
       try clear q10
       try clear hx10
       try clear c11
       try clear c12
       try clear c12b0
       try clear c13
       try clear c13b0
       try clear c15
       try clear hcz10_0
       try clear hcz10_1
       try clear hcz16_0
       try clear hcz16_1
       try clear hcz19_0
       try clear hcz19_1
       try clear hcz23_0
       try clear hcz23_1
       try clear hcz5_0
       try clear hcz5_1
       try clear hcz7_0
       try clear hcz7_1
       try clear hcz9_0
       try clear hcz9_1
       try clear hfz10_0
       try clear hfz10_1
       try clear hfz16_0
       try clear hfz16_1
       try clear hfz19_0
       try clear hfz19_1
       try clear hfz23_0
       try clear hfz23_1
       try clear hfz5_0
       try clear hfz5_1
       try clear hfz7_0
       try clear hfz7_1
       try clear hfz9_0
       try clear hfz9_1
       try clear hx102_0
       try clear hx102_1
       try clear hx102_2
       try clear p102
       try clear p2
       try clear q102
       obtain ⟨x6_3, rfl, HA, HK3, HO_4, HO_5, BK101, HB⟩ := hrel
       cases gk with
       | zero => exact absurd HA.out (by simp [grommetref12_Right.l1])
       | succ k3 =>
        have H := HA.out
        clear HA
        simp only [grommetref12_Right.l1] at H
        by_cases c25 : x6_3 < (l0_0.length : Int)
        rotate_left
        ·
         rw [if_neg c25] at H
         have c25b0 : decide (x6_3 < (l0_0.length : Int)) = false := decide_eq_false c25
         clear c25
         obtain rfl := Option.some.inj H
         have hcz44_0 : wr.cell? ⟨gb101, 0, none⟩ = some (.slice A0_0 l0_0.length c0_0) := (blk_cell BK101.out 0).trans rfl
         have hcz44_1 : wr.cell? ⟨gb101, 1, none⟩ = some (.int .i64 a0_1) := (blk_cell BK101.out 1).trans rfl
         have hfz44_0 := blk_frozen BK101.out 0
         have hfz44_1 := blk_frozen BK101.out 1
         go_wp2
         go_ret
         exact ⟨qxa4_, qxa0_⟩
        rw [if_pos c25] at H
        have c25b0 : decide (x6_3 < (l0_0.length : Int)) = true := decide_eq_true c25
        clear c25
        by_cases c26 : 0 ≤ x6_3
        rotate_left
        ·
         rw [if_neg c26] at H
         exact absurd H (by simp)
        rw [if_pos c26] at H
        have c26b0 : decide (0 ≤ x6_3) = true := decide_eq_true c26
        clear c26
        by_cases c27 : x6_3 < (t107.length : Int)
        rotate_left
        ·
         rw [if_neg c27] at H
         exact absurd H (by simp)
        rw [if_pos c27] at H
        have c27b0 : decide (x6_3 < (t107.length : Int)) = true := decide_eq_true c27
        clear c27
        obtain ⟨bq28, hbq28⟩ : ∃ b_ : Bool, b_ = (rdOf false t107 x6_3) := ⟨_, rfl⟩
        replace H : (if bq28 = true then (if x6_3 < (t104.length : Int) then (if (rd t104 x6_3) > 1 then (some false) else (if x6_3 = a0_1 then (some false) else (grommetref12_Right.l1 k3 t104 t107 (wrap64 (x6_3 + 1)) l0_0 a0_1))) else (none)) else (grommetref12_Right.l1 k3 t104 t107 (wrap64 (x6_3 + 1)) l0_0 a0_1)) = some r := by rw [← hbq28] at H; exact H
        have Nbq28 := Aside0.mk hbq28
        clear hbq28
        by_cases c29 : bq28 = true
        rotate_left
        ·
         replace c29 := Bool.eq_false_iff.mpr c29
         subst c29
         have H1 : (grommetref12_Right.l1 k3 t104 t107 (wrap64 (x6_3 + 1)) l0_0 a0_1) = some r := by rw [if_neg (show ¬ (false = true) by decide)] at H; exact H
         clear H
         have H := H1
         clear H1
         have H' := Aside0.mk H
         clear H
         have hcz42_0 : wr.cell? ⟨gb101, 0, none⟩ = some (.slice A0_0 l0_0.length c0_0) := (blk_cell BK101.out 0).trans rfl
         have hcz42_1 : wr.cell? ⟨gb101, 1, none⟩ = some (.int .i64 a0_1) := (blk_cell BK101.out 1).trans rfl
         have hfz42_0 := blk_frozen BK101.out 0
         have hfz42_1 := blk_frozen BK101.out 1
         obtain ⟨Ao43, co43, eo43⟩ := Kd.R_slice HO_5.out
         subst eo43
         have p110 : 0 ≤ (x6_3 : Int) := of_decide_eq_true (qxa2_)
         have q110 : x6_3 < (t107.length : Int) := of_decide_eq_true (qxa2_)
         obtain ⟨ad110, e110, hx110_0⟩ := Kd.at_bool (Kd.R_reads' HO_5.out).2.2 x6_3 p110 q110
         (try rw [← Nbq28.out] at hx110_0)
         (try rw [← Nbq28.out] at hw110_0)
         cases e110
         replace p110 := eq_true p110
         replace q110 := eq_true q110
         go_wp2
         go_roundg k3
         case measure => have := HJ1.out; have := HK2.out; have := HK3.out; omega
         case rel => exact ⟨(wrap64 (x6_3 + 1)), (qxa5_), (qxa6_), ⟨by have := HJ1.out; have := HK2.out; have := HK3.out; omega⟩, ⟨by (with_reducible repeat (first | apply Kd.R_alloc | apply Kd.R_drewN | apply Kd.R_drew)); exact HO_4.out⟩, ⟨by (with_reducible repeat (first | apply Kd.R_alloc | apply Kd.R_drewN | apply Kd.R_drew)); exact HO_5.out⟩, ⟨qxa1_⟩, ⟨qxa0_⟩⟩
        subst c29
        have H1 : (if x6_3 < (t104.length : Int) then (if (rd t104 x6_3) > 1 then (some false) else (if x6_3 = a0_1 then (some false) else (grommetref12_Right.l1 k3 t104 t107 (wrap64 (x6_3 + 1)) l0_0 a0_1))) else (none)) = some r := by rw [if_pos rfl] at H; exact H
        clear H
        have H := H1
        clear H1
        by_cases c30 : x6_3 < (t104.length : Int)
        rotate_left
        ·
         rw [if_neg c30] at H
         exact absurd H (by simp)
        rw [if_pos c30] at H
        have c30b0 : decide (x6_3 < (t104.length : Int)) = true := decide_eq_true c30
        clear c30
        by_cases c31 : (rd t104 x6_3) > 1
        ·
         rw [if_pos c31] at H
         have c31b0 : decide (1 < (rd t104 x6_3)) = true := decide_eq_true c31
         clear c31
         obtain rfl := Option.some.inj H
         have hcz32_0 : wr.cell? ⟨gb101, 0, none⟩ = some (.slice A0_0 l0_0.length c0_0) := (blk_cell BK101.out 0).trans rfl
         have hcz32_1 : wr.cell? ⟨gb101, 1, none⟩ = some (.int .i64 a0_1) := (blk_cell BK101.out 1).trans rfl
         have hfz32_0 := blk_frozen BK101.out 0
         have hfz32_1 := blk_frozen BK101.out 1
         obtain ⟨Ao33, co33, eo33⟩ := Kd.R_slice HO_5.out
         subst eo33
         have p110 : 0 ≤ (x6_3 : Int) := of_decide_eq_true (qxa2_)
         have q110 : x6_3 < (t107.length : Int) := of_decide_eq_true (qxa2_)
         obtain ⟨ad110, e110, hx110_0⟩ := Kd.at_bool (Kd.R_reads' HO_5.out).2.2 x6_3 p110 q110
         (try rw [← Nbq28.out] at hx110_0)
         (try rw [← Nbq28.out] at hw110_0)
         cases e110
         replace p110 := eq_true p110
         replace q110 := eq_true q110
         obtain ⟨Ao34, co34, eo34⟩ := Kd.R_slice HO_4.out
         subst eo34
         have p111 : 0 ≤ (x6_3 : Int) := of_decide_eq_true (qxa2_)
         have q111 : x6_3 < (t104.length : Int) := of_decide_eq_true (qxa2_)
         obtain ⟨ad111, e111, hx111_0⟩ := Kd.at_int (Kd.R_reads' HO_4.out).2.2 x6_3 p111 q111
         cases e111
         replace p111 := eq_true p111
         replace q111 := eq_true q111
         go_wp2
         go_ret
         exact ⟨qxa4_, qxa0_⟩
        rw [if_neg c31] at H
        have c31b0 : decide (1 < (rd t104 x6_3)) = false := decide_eq_false c31
        clear c31
        by_cases c35 : x6_3 = a0_1
        ·
         rw [if_pos c35] at H
         have c35b0 : (x6_3 == a0_1) = true := beq_iff_eq.mpr c35
         have c35b1 : (x6_3 != a0_1) = false := bne_eq_false_iff_eq.mpr c35
         clear c35
         obtain rfl := Option.some.inj H
         have hcz36_0 : wr.cell? ⟨gb101, 0, none⟩ = some (.slice A0_0 l0_0.length c0_0) := (blk_cell BK101.out 0).trans rfl
         have hcz36_1 : wr.cell? ⟨gb101, 1, none⟩ = some (.int .i64 a0_1) := (blk_cell BK101.out 1).trans rfl
         have hfz36_0 := blk_frozen BK101.out 0
         have hfz36_1 := blk_frozen BK101.out 1
         obtain ⟨Ao37, co37, eo37⟩ := Kd.R_slice HO_5.out
         subst eo37
         have p110 : 0 ≤ (x6_3 : Int) := of_decide_eq_true (qxa2_)
         have q110 : x6_3 < (t107.length : Int) := of_decide_eq_true (qxa2_)
         obtain ⟨ad110, e110, hx110_0⟩ := Kd.at_bool (Kd.R_reads' HO_5.out).2.2 x6_3 p110 q110
         (try rw [← Nbq28.out] at hx110_0)
         (try rw [← Nbq28.out] at hw110_0)
         cases e110
         replace p110 := eq_true p110
         replace q110 := eq_true q110
         obtain ⟨Ao38, co38, eo38⟩ := Kd.R_slice HO_4.out
         subst eo38
         have p111 : 0 ≤ (x6_3 : Int) := of_decide_eq_true (qxa2_)
         have q111 : x6_3 < (t104.length : Int) := of_decide_eq_true (qxa2_)
         obtain ⟨ad111, e111, hx111_0⟩ := Kd.at_int (Kd.R_reads' HO_4.out).2.2 x6_3 p111 q111
         cases e111
         replace p111 := eq_true p111
         replace q111 := eq_true q111
         go_wp2
         go_ret
         exact ⟨qxa4_, qxa0_⟩
        rw [if_neg c35] at H
        have c35b0 : (x6_3 == a0_1) = false := beq_eq_false_iff_ne.mpr c35
        have c35b1 : (x6_3 != a0_1) = true := bne_iff_ne.mpr c35
        have H' := Aside0.mk H
        clear H
        have hcz39_0 : wr.cell? ⟨gb101, 0, none⟩ = some (.slice A0_0 l0_0.length c0_0) := (blk_cell BK101.out 0).trans rfl
        have hcz39_1 : wr.cell? ⟨gb101, 1, none⟩ = some (.int .i64 a0_1) := (blk_cell BK101.out 1).trans rfl
        have hfz39_0 := blk_frozen BK101.out 0
        have hfz39_1 := blk_frozen BK101.out 1
        obtain ⟨Ao40, co40, eo40⟩ := Kd.R_slice HO_5.out
        subst eo40
        have p110 : 0 ≤ (x6_3 : Int) := of_decide_eq_true (qxa2_)
        have q110 : x6_3 < (t107.length : Int) := of_decide_eq_true (qxa2_)
        obtain ⟨ad110, e110, hx110_0⟩ := Kd.at_bool (Kd.R_reads' HO_5.out).2.2 x6_3 p110 q110
        (try rw [← Nbq28.out] at hx110_0)
        (try rw [← Nbq28.out] at hw110_0)
        cases e110
        replace p110 := eq_true p110
        replace q110 := eq_true q110
        obtain ⟨Ao41, co41, eo41⟩ := Kd.R_slice HO_4.out
        subst eo41
        have p111 : 0 ≤ (x6_3 : Int) := of_decide_eq_true (qxa2_)
        have q111 : x6_3 < (t104.length : Int) := of_decide_eq_true (qxa2_)
        obtain ⟨ad111, e111, hx111_0⟩ := Kd.at_int (Kd.R_reads' HO_4.out).2.2 x6_3 p111 q111
        cases e111
        replace p111 := eq_true p111
        replace q111 := eq_true q111
        go_wp2
        go_roundg k3
        case measure => have := HJ1.out; have := HK2.out; have := HK3.out; omega
        case rel => exact ⟨(wrap64 (x6_3 + 1)), (qxa5_), (qxa6_), ⟨by have := HJ1.out; have := HK2.out; have := HK3.out; omega⟩, ⟨by (with_reducible repeat (first | apply Kd.R_alloc | apply Kd.R_drewN | apply Kd.R_drew)); exact HO_4.out⟩, ⟨by (with_reducible repeat (first | apply Kd.R_alloc | apply Kd.R_drewN | apply Kd.R_drew)); exact HO_5.out⟩, ⟨qxa1_⟩, ⟨qxa0_⟩⟩
     rw [if_pos c12] at H
     have c12b0 : decide (x3_2 < (l0_0.length : Int)) = true := decide_eq_true c12
     clear c12
     by_cases c13 : 0 ≤ x3_2
     rotate_left
     ·
      rw [if_neg c13] at H
      exact absurd H (by simp)
     rw [if_pos c13] at H
     have c13b0 : decide (0 ≤ x3_2) = true := decide_eq_true c13
     clear c13
     replace H := Option.bind_eq_some_iff.mp H
     obtain ⟨t103, A140, H⟩ := H
     replace H : (if t103 = true then (grommetref12_Right.l0 k2 (wrap64 (x3_2 + 1)) l0_0 a0_1) else (some false)) = some r := H
     have A14 := Aside0.mk A140
     clear A140
     by_cases c15 : t103 = true
     rotate_left
     ·
      replace c15 := Bool.eq_false_iff.mpr c15
      subst c15
      have H1 : (some false) = some r := by rw [if_neg (show ¬ (false = true) by decide)] at H; exact H
      clear H
      have H := H1
      clear H1
      obtain rfl := Option.some.inj H
      have hcz19_0 : wr.cell? ⟨gb101, 0, none⟩ = some (.slice A0_0 l0_0.length c0_0) := (blk_cell BK101.out 0).trans rfl
      have hcz19_1 : wr.cell? ⟨gb101, 1, none⟩ = some (.int .i64 a0_1) := (blk_cell BK101.out 1).trans rfl
      have hfz19_0 := blk_frozen BK101.out 0
      have hfz19_1 := blk_frozen BK101.out 1
      try go_wp2
      have n0_ := Aside0.mk (blk_drew BK101.out)
      have n1_ := Aside0.mk (below_drew1 HB.out)
      clear BK101
      clear HB
      have BK101 := n0_
      have HB := n1_
      clear n0_ n1_
      have p102 : 0 ≤ (x3_2 : Int) := of_decide_eq_true (qxa2_)
      have q102 : x3_2 < (l0_0.length : Int) := of_decide_eq_true (qxa2_)
      obtain ⟨ad102, A102_2, c102_2, e102, hx102_0, hx102_1, hx102_2, hl102_2, hi102_2⟩ := at_T45 HR0_0.out x3_2 p102 q102
      have KX102_2 := Aside0.mk hx102_2
      have hw102_2 := hx102_2
      have hw102_1 := hx102_1
      have hw102_0 := hx102_0
      cases e102
      replace hx102_0 := (HB.out.cell (World.block_lt_of_cell? w _ hx102_0)).trans hx102_0
      replace hx102_1 := (HB.out.cell (World.block_lt_of_cell? w _ hx102_1)).trans hx102_1
      replace hx102_2 := (HB.out.cell (World.block_lt_of_cell? w _ hx102_2)).trans hx102_2
      have HR102_2 := Aside0.mk hi102_2
      have HC102_2 := Aside0.mk hl102_2
      clear hi102_2 hl102_2
      replace p102 := eq_true p102
      replace q102 := eq_true q102
      refine start_ (n := 8) (S := fun w' => w'.cell? ⟨gb101, 0, none⟩ = some (.slice (some ad102) l0_0.length c0_0) ∧ w'.cell? ⟨gb101, 1, none⟩ = some (.int .i64 a0_1) ∧ w'.cell? (ad102.add ((x3_2).toNat * 3)) = some (.int .i64 ((rd_T45 l0_0 x3_2).f0)) ∧ w'.cell? ⟨(ad102.add ((x3_2).toNat * 3)).block, (ad102.add ((x3_2).toNat * 3)).off + 1, none⟩ = some (.string ((rd_T45 l0_0 x3_2).f1)) ∧ w'.cell? ⟨(ad102.add ((x3_2).toNat * 3)).block, (ad102.add ((x3_2).toNat * 3)).off + 2, none⟩ = some (.slice A102_2 ((rd_T45 l0_0 x3_2).f2).length c102_2)) (ds := []) #[false, false, false, false, false, false, false, false] (by kernel_rfl) rfl rfl ⟨(blk_cell BK101.out 0).trans rfl, (blk_cell BK101.out 1).trans rfl, ((HB.out.cell (World.block_lt_of_cell? w _ hw102_0)).trans hw102_0), ((HB.out.cell (World.block_lt_of_cell? w _ hw102_1)).trans hw102_1), ((HB.out.cell (World.block_lt_of_cell? w _ hw102_2)).trans hw102_2)⟩ (fun hHeld => ?_); refine with_tabW grommetref12_Right.tab6 grommetref12_Right.bits6 (fun HT_ HW_ => ?_)
      generalize wr.drew = w20 at BK101 HB HR102_2 hx102_0 hx102_1 hx102_2 hHeld ⊢
      refine pure_ (i := 1) (N := some 38) (v := ?_) (a' := ?_) #[false, true, false, false, false, false, false, false] rfl rfl (any_of HT_.out (by kernel_rfl)) (fun _ _ _ h => h) (Or.inl ⟨by rfl, ?_⟩) ?_ ?_
      rotate_left
      exact qxa10_
      rotate_left
      exact qxa11_
      refine pure_ (i := 3) (N := some 40) (v := ?_) (a' := ?_) #[false, true, false, true, false, false, false, false] rfl rfl (any_of HT_.out (by kernel_rfl)) (fun _ _ _ h => h) (Or.inl ⟨by rfl, ?_⟩) ?_ ?_
      rotate_left
      exact qxa10_
      rotate_left
      exact qxa11_
      refine take_ (i := 0) (N := some 37) (v := ?_) (a' := ?_) #[true, true, false, true, false, false, false, false] rfl rfl (take_ofW HT_.out HW_.out (by kernel_rfl)) (fun _ _ _ h => h) (Or.inl ⟨by rfl, ?_⟩) hHeld ?_ ?_
      rotate_left
      exact qxa12_
      rotate_left
      exact qxa11_
      refine take_ (i := 2) (N := some 39) (v := ?_) (a' := ?_) #[true, true, true, true, false, false, false, false] rfl rfl (take_ofW HT_.out HW_.out (by kernel_rfl)) (fun _ _ _ h => h) (Or.inl ⟨by rfl, ?_⟩) hHeld ?_ ?_
      rotate_left
      exact qxa12_
      rotate_left
      exact qxa11_
      refine pure_ (i := 4) (N := some 41) (v := ?_) (a' := ?_) #[true, true, true, true, true, false, false, false] rfl rfl (any_of HT_.out (by kernel_rfl)) (fun _ _ _ h => h) (Or.inl ⟨by rfl, ?_⟩) ?_ ?_
      rotate_left
      exact qxa10_
      rotate_left
      exact qxa11_
      refine take_ (i := 5) (N := some 42) (v := ?_) (a' := ?_) #[true, true, true, true, true, true, false, false] rfl rfl (take_ofW HT_.out HW_.out (by kernel_rfl)) (fun _ _ _ h => h) (Or.inl ⟨by rfl, ?_⟩) hHeld ?_ ?_
      rotate_left
      exact qxa12_
      rotate_left
      exact qxa11_
      refine one_ (i := 6) (N := some 43) #[true, true, true, true, true, true, true, false] rfl rfl (one_of HT_.out (by kernel_rfl)) (by decide) (fun K hK => ?_)
      refine goes_ Tryz.func68 (by kernel_rfl) rfl #[.agg #[.slice (some ad102) l0_0.length c0_0, .int .i64 a0_1], .agg #[.int .i64 ((rd_T45 l0_0 x3_2).f0), .string ((rd_T45 l0_0 x3_2).f1), .slice A102_2 ((rd_T45 l0_0 x3_2).f2).length c102_2]] (by rfl) rfl rfl (qxa7_) ?_
      with_reducible refine (grommetref12_node.calls _ _ l0_0 a0_1 ((rd_T45 l0_0 x3_2).f0) ((rd_T45 l0_0 x3_2).f1) _ _ ((rd_T45 l0_0 x3_2).f2) false _ ?side1 ?side2 ?side3 ?side4 (hG.below (qxa3_)) A14.out).mono ?_
      (case side1 => exact qxa9_)
      (case side2 => exact HC0_0.out)
      (case side3 => repeat (first | exact (Kd.C_below HR102_2.out HB.out) | (with_reducible refine Kd.C_alloc ?_ _) | (with_reducible refine Kd.C_drewN ?_ _) | (with_reducible refine Kd.C_drew ?_)))
      (case side4 => exact HC102_2.out)
      rintro e w21 ⟨rfl, hb⟩
      refine ⟨_, rfl, ?_⟩
      have n0_ := Aside0.mk (blk_below (g := gb101) (o := .cells #[.slice (some ad102) l0_0.length c0_0, .int .i64 a0_1] 24 (0, 0)) (qxa1_) hb)
      have n1_ := Aside0.mk (below_step (qxa0_) hb)
      clear BK101
      clear HB
      have BK101 := n0_
      have HB := n1_
      clear n0_ n1_
      (try clear hb)
      (try clear hb2)
      (try clear hk)
      (try clear hi)
      refine hK.out _ _ ⟨(blk_cell BK101.out 0).trans rfl, (blk_cell BK101.out 1).trans rfl, ((HB.out.cell (World.block_lt_of_cell? w _ hw102_0)).trans hw102_0), ((HB.out.cell (World.block_lt_of_cell? w _ hw102_1)).trans hw102_1), ((HB.out.cell (World.block_lt_of_cell? w _ hw102_2)).trans hw102_2)⟩ (fun hHeld => ?_)
      clear hK K
      refine norm_ (a' := ?_) ?_ ?_
      rotate_left
      ·
       show Act.put _ (some 43) _ = _
       simp only [Act.put, List.setIfInBounds_toArray, List.set_cons_zero, List.set_cons_succ, i64_w, i32_w]
       rfl
      refine pure_ (i := 7) (N := some 44) (v := ?_) (a' := ?_) #[true, true, true, true, true, true, true, true] rfl rfl (any_of HT_.out (by kernel_rfl)) (fun _ _ _ h => h) (Or.inl ⟨by rfl, ?_⟩) ?_ ?_
      rotate_left
      exact qxa10_
      rotate_left
      exact qxa11_
      refine done_ (done_of HT_.out (by kernel_rfl)) ?_
      try go_wp2
      go_ret
      exact ⟨qxa4_, qxa0_⟩
     subst c15
     have H1 : (grommetref12_Right.l0 k2 (wrap64 (x3_2 + 1)) l0_0 a0_1) = some r := by rw [if_pos rfl] at H; exact H
     clear H
     have H := H1
     clear H1
     have H' := Aside0.mk H
     clear H
     have hcz16_0 : wr.cell? ⟨gb101, 0, none⟩ = some (.slice A0_0 l0_0.length c0_0) := (blk_cell BK101.out 0).trans rfl
     have hcz16_1 : wr.cell? ⟨gb101, 1, none⟩ = some (.int .i64 a0_1) := (blk_cell BK101.out 1).trans rfl
     have hfz16_0 := blk_frozen BK101.out 0
     have hfz16_1 := blk_frozen BK101.out 1
     try go_wp2
     have n0_ := Aside0.mk (blk_drew BK101.out)
     have n1_ := Aside0.mk (below_drew1 HB.out)
     clear BK101
     clear HB
     have BK101 := n0_
     have HB := n1_
     clear n0_ n1_
     have p102 : 0 ≤ (x3_2 : Int) := of_decide_eq_true (qxa2_)
     have q102 : x3_2 < (l0_0.length : Int) := of_decide_eq_true (qxa2_)
     obtain ⟨ad102, A102_2, c102_2, e102, hx102_0, hx102_1, hx102_2, hl102_2, hi102_2⟩ := at_T45 HR0_0.out x3_2 p102 q102
     have KX102_2 := Aside0.mk hx102_2
     have hw102_2 := hx102_2
     have hw102_1 := hx102_1
     have hw102_0 := hx102_0
     cases e102
     replace hx102_0 := (HB.out.cell (World.block_lt_of_cell? w _ hx102_0)).trans hx102_0
     replace hx102_1 := (HB.out.cell (World.block_lt_of_cell? w _ hx102_1)).trans hx102_1
     replace hx102_2 := (HB.out.cell (World.block_lt_of_cell? w _ hx102_2)).trans hx102_2
     have HR102_2 := Aside0.mk hi102_2
     have HC102_2 := Aside0.mk hl102_2
     clear hi102_2 hl102_2
     replace p102 := eq_true p102
     replace q102 := eq_true q102
     refine start_ (n := 8) (S := fun w' => w'.cell? ⟨gb101, 0, none⟩ = some (.slice (some ad102) l0_0.length c0_0) ∧ w'.cell? ⟨gb101, 1, none⟩ = some (.int .i64 a0_1) ∧ w'.cell? (ad102.add ((x3_2).toNat * 3)) = some (.int .i64 ((rd_T45 l0_0 x3_2).f0)) ∧ w'.cell? ⟨(ad102.add ((x3_2).toNat * 3)).block, (ad102.add ((x3_2).toNat * 3)).off + 1, none⟩ = some (.string ((rd_T45 l0_0 x3_2).f1)) ∧ w'.cell? ⟨(ad102.add ((x3_2).toNat * 3)).block, (ad102.add ((x3_2).toNat * 3)).off + 2, none⟩ = some (.slice A102_2 ((rd_T45 l0_0 x3_2).f2).length c102_2)) (ds := []) #[false, false, false, false, false, false, false, false] (by kernel_rfl) rfl rfl ⟨(blk_cell BK101.out 0).trans rfl, (blk_cell BK101.out 1).trans rfl, ((HB.out.cell (World.block_lt_of_cell? w _ hw102_0)).trans hw102_0), ((HB.out.cell (World.block_lt_of_cell? w _ hw102_1)).trans hw102_1), ((HB.out.cell (World.block_lt_of_cell? w _ hw102_2)).trans hw102_2)⟩ (fun hHeld => ?_); refine with_tabW grommetref12_Right.tab6 grommetref12_Right.bits6 (fun HT_ HW_ => ?_)
     generalize wr.drew = w17 at BK101 HB HR102_2 hx102_0 hx102_1 hx102_2 hHeld ⊢
     refine pure_ (i := 1) (N := some 38) (v := ?_) (a' := ?_) #[false, true, false, false, false, false, false, false] rfl rfl (any_of HT_.out (by kernel_rfl)) (fun _ _ _ h => h) (Or.inl ⟨by rfl, ?_⟩) ?_ ?_
     rotate_left
     exact qxa10_
     rotate_left
     exact qxa11_
     refine pure_ (i := 3) (N := some 40) (v := ?_) (a' := ?_) #[false, true, false, true, false, false, false, false] rfl rfl (any_of HT_.out (by kernel_rfl)) (fun _ _ _ h => h) (Or.inl ⟨by rfl, ?_⟩) ?_ ?_
     rotate_left
     exact qxa10_
     rotate_left
     exact qxa11_
     refine take_ (i := 0) (N := some 37) (v := ?_) (a' := ?_) #[true, true, false, true, false, false, false, false] rfl rfl (take_ofW HT_.out HW_.out (by kernel_rfl)) (fun _ _ _ h => h) (Or.inl ⟨by rfl, ?_⟩) hHeld ?_ ?_
     rotate_left
     exact qxa12_
     rotate_left
     exact qxa11_
     refine take_ (i := 2) (N := some 39) (v := ?_) (a' := ?_) #[true, true, true, true, false, false, false, false] rfl rfl (take_ofW HT_.out HW_.out (by kernel_rfl)) (fun _ _ _ h => h) (Or.inl ⟨by rfl, ?_⟩) hHeld ?_ ?_
     rotate_left
     exact qxa12_
     rotate_left
     exact qxa11_
     refine pure_ (i := 4) (N := some 41) (v := ?_) (a' := ?_) #[true, true, true, true, true, false, false, false] rfl rfl (any_of HT_.out (by kernel_rfl)) (fun _ _ _ h => h) (Or.inl ⟨by rfl, ?_⟩) ?_ ?_
     rotate_left
     exact qxa10_
     rotate_left
     exact qxa11_
     refine take_ (i := 5) (N := some 42) (v := ?_) (a' := ?_) #[true, true, true, true, true, true, false, false] rfl rfl (take_ofW HT_.out HW_.out (by kernel_rfl)) (fun _ _ _ h => h) (Or.inl ⟨by rfl, ?_⟩) hHeld ?_ ?_
     rotate_left
     exact qxa12_
     rotate_left
     exact qxa11_
     refine one_ (i := 6) (N := some 43) #[true, true, true, true, true, true, true, false] rfl rfl (one_of HT_.out (by kernel_rfl)) (by decide) (fun K hK => ?_)
     refine goes_ Tryz.func68 (by kernel_rfl) rfl #[.agg #[.slice (some ad102) l0_0.length c0_0, .int .i64 a0_1], .agg #[.int .i64 ((rd_T45 l0_0 x3_2).f0), .string ((rd_T45 l0_0 x3_2).f1), .slice A102_2 ((rd_T45 l0_0 x3_2).f2).length c102_2]] (by rfl) rfl rfl (qxa7_) ?_
     with_reducible refine (grommetref12_node.calls _ _ l0_0 a0_1 ((rd_T45 l0_0 x3_2).f0) ((rd_T45 l0_0 x3_2).f1) _ _ ((rd_T45 l0_0 x3_2).f2) true _ ?side1 ?side2 ?side3 ?side4 (hG.below (qxa3_)) A14.out).mono ?_
     (case side1 => exact qxa9_)
     (case side2 => exact HC0_0.out)
     (case side3 => repeat (first | exact (Kd.C_below HR102_2.out HB.out) | (with_reducible refine Kd.C_alloc ?_ _) | (with_reducible refine Kd.C_drewN ?_ _) | (with_reducible refine Kd.C_drew ?_)))
     (case side4 => exact HC102_2.out)
     rintro e w18 ⟨rfl, hb⟩
     refine ⟨_, rfl, ?_⟩
     have n0_ := Aside0.mk (blk_below (g := gb101) (o := .cells #[.slice (some ad102) l0_0.length c0_0, .int .i64 a0_1] 24 (0, 0)) (qxa1_) hb)
     have n1_ := Aside0.mk (below_step (qxa0_) hb)
     clear BK101
     clear HB
     have BK101 := n0_
     have HB := n1_
     clear n0_ n1_
     (try clear hb)
     (try clear hb2)
     (try clear hk)
     (try clear hi)
     refine hK.out _ _ ⟨(blk_cell BK101.out 0).trans rfl, (blk_cell BK101.out 1).trans rfl, ((HB.out.cell (World.block_lt_of_cell? w _ hw102_0)).trans hw102_0), ((HB.out.cell (World.block_lt_of_cell? w _ hw102_1)).trans hw102_1), ((HB.out.cell (World.block_lt_of_cell? w _ hw102_2)).trans hw102_2)⟩ (fun hHeld => ?_)
     clear hK K
     refine norm_ (a' := ?_) ?_ ?_
     rotate_left
     ·
      show Act.put _ (some 43) _ = _
      simp only [Act.put, List.setIfInBounds_toArray, List.set_cons_zero, List.set_cons_succ, i64_w, i32_w]
      rfl
     refine pure_ (i := 7) (N := some 44) (v := ?_) (a' := ?_) #[true, true, true, true, true, true, true, true] rfl rfl (any_of HT_.out (by kernel_rfl)) (fun _ _ _ h => h) (Or.inl ⟨by rfl, ?_⟩) ?_ ?_
     rotate_left
     exact qxa10_
     rotate_left
     exact qxa11_
     refine done_ (done_of HT_.out (by kernel_rfl)) ?_
     try go_wp2
     go_roundg k2
     case measure => have := HJ1.out; have := HK2.out; omega
     case rel => exact ⟨(wrap64 (x3_2 + 1)), (qxa5_), (qxa6_), ⟨by have := HJ1.out; have := HK2.out; omega⟩, ⟨qxa1_⟩, ⟨qxa0_⟩⟩
end Go.Proofs.YtnjcpoojgmpmeaaGreatDoor.PX
namespace Go.Proofs.YtnjcpoojgmpmeaaGreatDoor.PX
open RowKit YtnjcpoojgmpmeaaGreatDoorW.PrintWords YtnjcpoojgmpmeaaGreatDoorW.PrintLast YtnjcpoojgmpmeaaGreatDoorW.PrintMore YtnjcpoojgmpmeaaGreatDoor
attribute [local go_sem] max2_int min2_int max_two min_two max_three min_three max_four min_four   -- for this text's walks alone
set_option linter.unusedVariables false
set_option linter.unusedSimpArgs false
mutual
def grommetref12_walk.l0 : Nat → List Bool → List Int → List Int → Int → List Int → List (S45) → Int → Option (List Int × Int)
  | 0, _, _, _, _, _, _, _ => none
  | k + 1, x6, x7, x8, x9, x10, x102000, x102001 => if (x7.length : Int) > 0 then (if 0 ≤ (wrap64 ((x7.length : Int) - 1)) then (if (wrap64 ((x7.length : Int) - 1)) < (x7.length : Int) then (if 0 ≤ (wrap64 ((x8.length : Int) - 1)) then (if (wrap64 ((x8.length : Int) - 1)) < (x8.length : Int) then (if (wrap64 ((x7.length : Int) - 1)) ≤ (x7.length : Int) then ((some (x7.take ((wrap64 ((x7.length : Int) - 1)) : Int).toNat : List Int)).bind fun y113 => (if (wrap64 ((x8.length : Int) - 1)) ≤ (x8.length : Int) then ((some (x8.take ((wrap64 ((x8.length : Int) - 1)) : Int).toNat : List Int)).bind fun y116 => (if 0 ≤ (rd x7 (wrap64 ((x7.length : Int) - 1))) then (if (rd x7 (wrap64 ((x7.length : Int) - 1))) < (x6.length : Int) then (if rdOf false x6 (rd x7 (wrap64 ((x7.length : Int) - 1))) = true then (grommetref12_walk.l0 k x6 y113 y116 x9 x10 x102000 x102001) else (if x10.length < 17592186044416 then (if (rd x7 (wrap64 ((x7.length : Int) - 1))) < (x102000.length : Int) then (grommetref12_walk.l1 k (x6.set ((rd x7 (wrap64 ((x7.length : Int) - 1))) : Int).toNat true) y113 y116 (mx x9 (rd x8 (wrap64 ((x8.length : Int) - 1)))) (x10 ++ [rd x7 (wrap64 ((x7.length : Int) - 1))]) (rd x8 (wrap64 ((x8.length : Int) - 1))) ((rd_T45 x102000 (rd x7 (wrap64 ((x7.length : Int) - 1)))).f2) (wrap64 ((((rd_T45 x102000 (rd x7 (wrap64 ((x7.length : Int) - 1)))).f2).length : Int) - 1)) x102000 x102001) else (none)) else (none))) else (none)) else (none))) else (none))) else (none)) else (none)) else (none)) else (none)) else (none)) else (some (x10, x9))
def grommetref12_walk.l1 : Nat → List Bool → List Int → List Int → Int → List Int → Int → List Int → Int → List (S45) → Int → Option (List Int × Int)
  | 0, _, _, _, _, _, _, _, _, _, _ => none
  | k + 1, x6, x7, x8, x9, x10, x12, x13, x14, x102000, x102001 => if x14 ≥ 0 then (if 0 ≤ x14 then (if x14 < (x13.length : Int) then (if x7.length < 17592186044416 then (if x8.length < 17592186044416 then (grommetref12_walk.l1 k x6 (x7 ++ [rd x13 x14]) (x8 ++ [wrap64 (x12 + 1)]) x9 x10 x12 x13 (wrap64 (x14 - 1)) x102000 x102001) else (none)) else (none)) else (none)) else (none)) else (grommetref12_walk.l0 k x6 x7 x8 x9 x10 x102000 x102001)
end
def grommetref12_walk.f (k : Nat) (l0_0 : List (S45)) (a0_1 : Int) (a1 : Int) : Option (List Int × Int) := if 0 ≤ (l0_0.length : Int) then (if ((l0_0.length : Int) : Int).toNat ≤ 281474976710656 then (grommetref12_walk.l0 k (List.replicate ((l0_0.length : Int) : Int).toNat false) (([a1] : List Int)) (([1] : List Int)) 0 ([] : List Int) l0_0 a0_1) else (none)) else (none)
theorem qfb0_ {P : Prop} (h_ : P := by repeat (first | (with_reducible first | exact HB.out | apply below_alloc | apply pw_below_drewN | apply below_drew1 | refine below_set ?_ GE101.out) | exact HB.out)) : P := h_
theorem qfb1_ {P : Prop} (h_ : P := by (with_reducible repeat (first | refine blk_drewN ?_ _ | refine blk_drew ?_ | refine blk_alloc ?_ _)); exact BK101.out) : P := h_
theorem qfb2_ {P : Prop} (h_ : P := by first | (with_reducible assumption) | assumption) : P := h_
theorem qfb3_ {P : Prop} (h_ : P := by (with_reducible repeat (first | apply Kd.R_alloc | apply Kd.R_drewN | apply Kd.R_drew)); exact HO_10.out) : P := h_
theorem qfb4_ {P : Prop} (h_ : P := by repeat (first | (with_reducible first | exact HB.out | apply below_alloc | apply pw_below_drewN | apply below_drew1) | exact HB.out)) : P := h_
theorem qfb5_ {P : Prop} (h_ : P := by (with_reducible repeat (first | apply Kd.R_alloc | apply Kd.R_drewN | apply Kd.R_drew)); exact HO118.out) : P := h_
theorem qfb6_ {P : Prop} (h_ : P := by (with_reducible repeat (first | apply Kd.R_alloc | apply Kd.R_drewN | apply Kd.R_drew)); exact HO115.out) : P := h_
theorem qfb7_ {P : Prop} (h_ : P := by (with_reducible repeat (first | apply Kd.R_alloc | apply Kd.R_drewN | apply Kd.R_drew)); exact HO_6.out) : P := h_
theorem qfb8_ {P : Prop} (h_ : P := by (with_reducible repeat (first | apply Kd.R_alloc | apply Kd.R_drewN | apply Kd.R_drew)); exact HO_8.out) : P := h_
theorem qfb9_ {P : Prop} (h_ : P := by (with_reducible repeat (first | apply Kd.R_alloc | apply Kd.R_drewN | apply Kd.R_drew)); exact Kd.R_mono HO_10.out (fun _ hk => ⟨hk.2, hk.1⟩)) : P := h_
theorem qfb10_ {P : Prop} (h_ : P := by (with_reducible repeat (first | apply Kd.R_alloc | apply Kd.R_drewN | apply Kd.R_drew)); exact HO104.out) : P := h_
theorem qfb11_ {P : Prop} (h_ : P := by (with_reducible repeat (first | apply Kd.R_alloc | apply Kd.R_drewN | apply Kd.R_drew)); exact HO107.out) : P := h_
theorem qfb12_ {P : Prop} (h_ : P := by (with_reducible repeat (first | apply Kd.R_alloc | apply Kd.R_drewN | apply Kd.R_drew)); exact HO_7.out) : P := h_
theorem qfb13_ {P : Prop} (h_ : P := by (with_reducible repeat (first | apply Kd.R_alloc | apply Kd.R_drewN | apply Kd.R_drew)); exact Kd.R_mono HO128.out (fun _ hk => ⟨hk.2, hk.1⟩)) : P := h_
theorem qfb14_ {P : Prop} (h_ : P := by (with_reducible repeat (first | apply Kd.R_alloc | apply Kd.R_drewN | apply Kd.R_drew)); exact Kd.R_mono HO_8.out (fun _ hk => ⟨hk.2, hk.1⟩)) : P := h_
theorem qfb15_ {P : Prop} (h_ : P := by (with_reducible repeat (first | apply Kd.R_alloc | apply Kd.R_drewN | apply Kd.R_drew)); exact HO128.out) : P := h_
theorem qfb16_ {P : Prop} (h_ : P := by (try simp only [hl6_2]); (with_reducible repeat (first | refine blk_drewN ?_ _ | refine blk_drew ?_ | refine blk_alloc ?_ _)); exact BK101.out) : P := h_
theorem qfb17_ {P : Prop} (h_ : P := by (try simp only [hl6_2]); (with_reducible repeat (first | apply Kd.R_alloc | apply Kd.R_drewN | apply Kd.R_drew)); exact HO_10.out) : P := h_
theorem qfb18_ {P : Prop} (h_ : P := by (try simp only [hl6_2]); (with_reducible repeat (first | apply Kd.R_alloc | apply Kd.R_drewN | apply Kd.R_drew)); exact HO_6.out) : P := h_
set_option maxHeartbeats 8000000 in
set_option maxRecDepth 100000 in
theorem grommetref12_walk.calls (k : Nat) (A0_0 : Option Addr) (c0_0 : Nat) (l0_0 : List (S45)) (a0_1 : Int) (a1 : Int) (r1 : List Int) (r2 : Int) (w : World) (hr0_0 : Kd.C k45 w A0_0 l0_0.length l0_0) (hc0_0 : l0_0.length ≤ c0_0) (hG : Glob.G w) (h : grommetref12_walk.f k l0_0 a0_1 a1 = some (r1, r2)) :
  Calls Tryz.prog 48 #[.agg #[.slice A0_0 l0_0.length c0_0, .int .i64 a0_1], .int .i64 a1] w fun e w' => ∃ v0_ : Value, e = .returned (.tuple #[v0_, .int .i64 r2]) ∧ Kd.R (Kd.int .i64) 3 w' w.heap.size (fun _ => True) v0_ r1 ∧ Below w.heap.size w w' := by
 have hu24 := Tryz.underlying24
 have HR0_0 := Aside0.mk hr0_0
 have HC0_0 := Aside0.mk hc0_0
 clear hr0_0 hc0_0
 have HB := Aside0.mk (Below.refl w.heap.size w)
 have H : (if 0 ≤ (l0_0.length : Int) then (if ((l0_0.length : Int) : Int).toNat ≤ 281474976710656 then (grommetref12_walk.l0 k (List.replicate ((l0_0.length : Int) : Int).toNat false) (([a1] : List Int)) (([1] : List Int)) 0 ([] : List Int) l0_0 a0_1) else (none)) else (none)) = some (r1, r2) := h
 clear h
 by_cases c3 : 0 ≤ (l0_0.length : Int)
 rotate_left
 ·
  rw [if_neg c3] at H
  exact absurd H (by simp)
 rw [if_pos c3] at H
 have c3b0 := eq_true c3
 have c3b1 : decide (0 ≤ (l0_0.length : Int)) = true := decide_eq_true c3
 clear c3
 by_cases c4 : ((l0_0.length : Int) : Int).toNat ≤ 281474976710656
 rotate_left
 ·
  rw [if_neg c4] at H
  exact absurd H (by simp)
 rw [if_pos c4] at H
 have c4b0 := eq_true c4
 have c4b1 : decide (((l0_0.length : Int) : Int).toNat ≤ 281474976710656) = true := decide_eq_true c4
 clear c4
 obtain ⟨y102, hy102⟩ : ∃ y_ : List Bool, y_ = (List.replicate ((l0_0.length : Int) : Int).toNat false) := ⟨_, rfl⟩
 replace H : (grommetref12_walk.l0 k y102 (([a1] : List Int)) (([1] : List Int)) 0 ([] : List Int) l0_0 a0_1) = some (r1, r2) := by first | (rw [hy102]; with_reducible exact H) | (have H2_ := (Option.bind_some _ _).symm.trans H; rw [hy102]; with_reducible exact H2_) | (have H2_ := (Option.bind_some _ _).symm.trans H; with_reducible exact H2_) | with_reducible exact H | (rw [hy102]; exact H) | exact H
 have Ny102 := Aside0.mk hy102
 clear hy102
 obtain ⟨y105, hy105⟩ : ∃ y_ : List Int, y_ = (([a1] : List Int)) := ⟨_, rfl⟩
 replace H : (grommetref12_walk.l0 k y102 y105 (([1] : List Int)) 0 ([] : List Int) l0_0 a0_1) = some (r1, r2) := by first | (rw [hy105]; with_reducible exact H) | (have H2_ := (Option.bind_some _ _).symm.trans H; rw [hy105]; with_reducible exact H2_) | (have H2_ := (Option.bind_some _ _).symm.trans H; with_reducible exact H2_) | with_reducible exact H | (rw [hy105]; exact H) | exact H
 have Ny105 := Aside0.mk hy105
 clear hy105
 obtain ⟨y108, hy108⟩ : ∃ y_ : List Int, y_ = (([1] : List Int)) := ⟨_, rfl⟩
 replace H : (grommetref12_walk.l0 k y102 y105 y108 0 ([] : List Int) l0_0 a0_1) = some (r1, r2) := by first | (rw [hy108]; with_reducible exact H) | (have H2_ := (Option.bind_some _ _).symm.trans H; rw [hy108]; with_reducible exact H2_) | (have H2_ := (Option.bind_some _ _).symm.trans H; with_reducible exact H2_) | with_reducible exact H | (rw [hy108]; exact H) | exact H
 have Ny108 := Aside0.mk hy108
 clear hy108
 have H' := Aside0.mk H
 clear H
 go_enter Tryz.func48, Tryz.ntmps48
 go_wp2_with (first | ((with_reducible refine gate_dst (N := 2) rfl ?_); refine box_event ?hg (N := 2) ?hd (cs := #[.slice A0_0 l0_0.length c0_0, .int .i64 a0_1]) (t := 24) ?hr ?_; (case hd => rfl); (case hg => rfl); (case hr => first | (go_simp; done) | (go_simp; rfl)); intro gb101 hg w5 hbox hb; have n0_ := Aside0.mk (below_step (qfb4_) hb); have n1_ := Aside0.mk (hbox); have n2_ := Aside0.mk ((by rw [hg]; exact (below_size (qfb4_)) : w.heap.size ≤ gb101)); have n3_ := Aside0.mk ((by rw [hg]; exact (below_size (qfb4_)) : w.heap.size ≤ gb101)); clear HB; have HB := n0_; have BK101 := n1_; have GW101 := n2_; have GE101 := n3_; clear n0_ n1_ n2_ n3_; clear hb hbox hg; have hcz6_0 : w5.cell? ⟨gb101, 0, none⟩ = some (.slice A0_0 l0_0.length c0_0) := (blk_cell BK101.out 0).trans rfl; have hcz6_1 : w5.cell? ⟨gb101, 1, none⟩ = some (.int .i64 a0_1) := (blk_cell BK101.out 1).trans rfl; have hfz6_0 := blk_frozen BK101.out 0; have hfz6_1 := blk_frozen BK101.out 1) | ((with_reducible refine gate_dst (N := 18) rfl ?_); refine Kd.R_make Kd.bool _ 4 rfl (N := 18) rfl 72 _ _ rfl (l0_0.length : Int) rfl rfl Tryz.underlying72 (.bool false) 1 info4 rfl (by decide) (by omega) false (ok := fun _ => True) (okp := fun _ => True) rfl (fun _ hk => hk) trivial (of_decide_eq_true (qfb2_)) (Nat.le_trans (Nat.mul_le_mul_right _ (of_decide_eq_true (qfb2_) : (l0_0.length : Int).toNat ≤ 281474976710656)) (by omega)) (Below.refl _ _) (Nat.le_refl _) ?_; intro v103 w7 ho8 hb hg_ hnew_; clear hg_ hnew_; (first | rw [← Ny102.out] at ho8 | (simp only [Int.reduceToNat] at ho8; rw [← Ny102.out] at ho8)); have n0_ := Aside0.mk (Kd.R_lower ho8 (below_size (qfb0_))); have n1_ := Aside0.mk (blk_below (g := gb101) (o := .cells #[.slice A0_0 l0_0.length c0_0, .int .i64 a0_1] 24 (0, 0)) (qfb1_) hb); have n2_ := Aside0.mk (below_step (qfb0_) hb); clear BK101; clear HB; have HO104 := n0_; have BK101 := n1_; have HB := n2_; clear n0_ n1_ n2_; clear hb ho8) | ((with_reducible refine gate_dst (N := 20) rfl ?_); refine Kd.R_lit (Kd.int .i64) _ 3 ?hg (N := 20) ?hd (xs := ([a1] : List Int)) (inner := [.int .i64 a1]) (ok := fun _ => True) (okp := fun _ => True) ?hr ?hp (fun _ hk => hk) trivial (Below.refl _ _) (Nat.le_refl _) (by simp) ?_; (case hd => rfl); (case hg => rfl); (case hr => first | (go_simp; done) | (go_simp; rfl)); (case hp => exact (Reps.one (show Kd.M (Kd.int .i64) _ _ _ a1 [.int .i64 a1] from rfl) (Reps.none _ _))); intro v106 w9 ho10 hb hg_ hnew_; clear hg_ hnew_; (first | rw [← Ny105.out] at ho10 | (simp only [Int.reduceToNat] at ho10; rw [← Ny105.out] at ho10)); have n0_ := Aside0.mk (Kd.R_below (qfb10_) hb); have n1_ := Aside0.mk (Kd.R_lower ho10 (below_size (qfb0_))); have n2_ := Aside0.mk (blk_below (g := gb101) (o := .cells #[.slice A0_0 l0_0.length c0_0, .int .i64 a0_1] 24 (0, 0)) (qfb1_) hb); have n3_ := Aside0.mk (below_step (qfb0_) hb); clear HO104; clear BK101; clear HB; have HO104 := n0_; have HO107 := n1_; have BK101 := n2_; have HB := n3_; clear n0_ n1_ n2_ n3_; clear hb ho10) | ((with_reducible refine gate_dst (N := 21) rfl ?_); refine Kd.R_lit (Kd.int .i64) _ 3 ?hg (N := 21) ?hd (xs := ([1] : List Int)) (inner := [.int .i64 1]) (ok := fun _ => True) (okp := fun _ => True) ?hr ?hp (fun _ hk => hk) trivial (Below.refl _ _) (Nat.le_refl _) (by simp) ?_; (case hd => rfl); (case hg => rfl); (case hr => first | (go_simp; done) | (go_simp; rfl)); (case hp => exact (Reps.one (show Kd.M (Kd.int .i64) _ _ _ 1 [.int .i64 1] from rfl) (Reps.none _ _))); intro v109 w11 ho12 hb hg_ hnew_; clear hg_ hnew_; (first | rw [← Ny108.out] at ho12 | (simp only [Int.reduceToNat] at ho12; rw [← Ny108.out] at ho12)); have n0_ := Aside0.mk (Kd.R_below (qfb10_) hb); have n1_ := Aside0.mk (Kd.R_elder' (qfb11_) (Kd.R_base ho12) hb); have n2_ := Aside0.mk (Kd.R_lower (Kd.R_new' ho12 (Kd.R_lt (qfb11_))) (below_size (qfb0_))); have n3_ := Aside0.mk (blk_below (g := gb101) (o := .cells #[.slice A0_0 l0_0.length c0_0, .int .i64 a0_1] 24 (0, 0)) (qfb1_) hb); have n4_ := Aside0.mk (below_step (qfb0_) hb); clear HO104; clear HO107; clear BK101; clear HB; have HO104 := n0_; have HO107 := n1_; have HO110 := n2_; have BK101 := n3_; have HB := n4_; clear n0_ n1_ n2_ n3_ n4_; clear hb ho12))
 repeat (go_quiet (first | ((with_reducible refine gate_dst (N := 2) rfl ?_); refine box_event ?hg (N := 2) ?hd (cs := #[.slice A0_0 l0_0.length c0_0, .int .i64 a0_1]) (t := 24) ?hr ?_; (case hd => rfl); (case hg => rfl); (case hr => first | (go_simp; done) | (go_simp; rfl)); intro gb101 hg w5 hbox hb; have n0_ := Aside0.mk (below_step (qfb4_) hb); have n1_ := Aside0.mk (hbox); have n2_ := Aside0.mk ((by rw [hg]; exact (below_size (qfb4_)) : w.heap.size ≤ gb101)); have n3_ := Aside0.mk ((by rw [hg]; exact (below_size (qfb4_)) : w.heap.size ≤ gb101)); clear HB; have HB := n0_; have BK101 := n1_; have GW101 := n2_; have GE101 := n3_; clear n0_ n1_ n2_ n3_; clear hb hbox hg; have hcz6_0 : w5.cell? ⟨gb101, 0, none⟩ = some (.slice A0_0 l0_0.length c0_0) := (blk_cell BK101.out 0).trans rfl; have hcz6_1 : w5.cell? ⟨gb101, 1, none⟩ = some (.int .i64 a0_1) := (blk_cell BK101.out 1).trans rfl; have hfz6_0 := blk_frozen BK101.out 0; have hfz6_1 := blk_frozen BK101.out 1) | ((with_reducible refine gate_dst (N := 18) rfl ?_); refine Kd.R_make Kd.bool _ 4 rfl (N := 18) rfl 72 _ _ rfl (l0_0.length : Int) rfl rfl Tryz.underlying72 (.bool false) 1 info4 rfl (by decide) (by omega) false (ok := fun _ => True) (okp := fun _ => True) rfl (fun _ hk => hk) trivial (of_decide_eq_true (qfb2_)) (Nat.le_trans (Nat.mul_le_mul_right _ (of_decide_eq_true (qfb2_) : (l0_0.length : Int).toNat ≤ 281474976710656)) (by omega)) (Below.refl _ _) (Nat.le_refl _) ?_; intro v103 w7 ho8 hb hg_ hnew_; clear hg_ hnew_; (first | rw [← Ny102.out] at ho8 | (simp only [Int.reduceToNat] at ho8; rw [← Ny102.out] at ho8)); have n0_ := Aside0.mk (Kd.R_lower ho8 (below_size (qfb0_))); have n1_ := Aside0.mk (blk_below (g := gb101) (o := .cells #[.slice A0_0 l0_0.length c0_0, .int .i64 a0_1] 24 (0, 0)) (qfb1_) hb); have n2_ := Aside0.mk (below_step (qfb0_) hb); clear BK101; clear HB; have HO104 := n0_; have BK101 := n1_; have HB := n2_; clear n0_ n1_ n2_; clear hb ho8) | ((with_reducible refine gate_dst (N := 20) rfl ?_); refine Kd.R_lit (Kd.int .i64) _ 3 ?hg (N := 20) ?hd (xs := ([a1] : List Int)) (inner := [.int .i64 a1]) (ok := fun _ => True) (okp := fun _ => True) ?hr ?hp (fun _ hk => hk) trivial (Below.refl _ _) (Nat.le_refl _) (by simp) ?_; (case hd => rfl); (case hg => rfl); (case hr => first | (go_simp; done) | (go_simp; rfl)); (case hp => exact (Reps.one (show Kd.M (Kd.int .i64) _ _ _ a1 [.int .i64 a1] from rfl) (Reps.none _ _))); intro v106 w9 ho10 hb hg_ hnew_; clear hg_ hnew_; (first | rw [← Ny105.out] at ho10 | (simp only [Int.reduceToNat] at ho10; rw [← Ny105.out] at ho10)); have n0_ := Aside0.mk (Kd.R_below (qfb10_) hb); have n1_ := Aside0.mk (Kd.R_lower ho10 (below_size (qfb0_))); have n2_ := Aside0.mk (blk_below (g := gb101) (o := .cells #[.slice A0_0 l0_0.length c0_0, .int .i64 a0_1] 24 (0, 0)) (qfb1_) hb); have n3_ := Aside0.mk (below_step (qfb0_) hb); clear HO104; clear BK101; clear HB; have HO104 := n0_; have HO107 := n1_; have BK101 := n2_; have HB := n3_; clear n0_ n1_ n2_ n3_; clear hb ho10) | ((with_reducible refine gate_dst (N := 21) rfl ?_); refine Kd.R_lit (Kd.int .i64) _ 3 ?hg (N := 21) ?hd (xs := ([1] : List Int)) (inner := [.int .i64 1]) (ok := fun _ => True) (okp := fun _ => True) ?hr ?hp (fun _ hk => hk) trivial (Below.refl _ _) (Nat.le_refl _) (by simp) ?_; (case hd => rfl); (case hg => rfl); (case hr => first | (go_simp; done) | (go_simp; rfl)); (case hp => exact (Reps.one (show Kd.M (Kd.int .i64) _ _ _ 1 [.int .i64 1] from rfl) (Reps.none _ _))); intro v109 w11 ho12 hb hg_ hnew_; clear hg_ hnew_; (first | rw [← Ny108.out] at ho12 | (simp only [Int.reduceToNat] at ho12; rw [← Ny108.out] at ho12)); have n0_ := Aside0.mk (Kd.R_below (qfb10_) hb); have n1_ := Aside0.mk (Kd.R_elder' (qfb11_) (Kd.R_base ho12) hb); have n2_ := Aside0.mk (Kd.R_lower (Kd.R_new' ho12 (Kd.R_lt (qfb11_))) (below_size (qfb0_))); have n3_ := Aside0.mk (blk_below (g := gb101) (o := .cells #[.slice A0_0 l0_0.length c0_0, .int .i64 a0_1] 24 (0, 0)) (qfb1_) hb); have n4_ := Aside0.mk (below_step (qfb0_) hb); clear HO104; clear HO107; clear BK101; clear HB; have HO104 := n0_; have HO107 := n1_; have HO110 := n2_; have BK101 := n3_; have HB := n4_; clear n0_ n1_ n2_ n3_ n4_; clear hb ho12)); try go_wp2_with (first | ((with_reducible refine gate_dst (N := 2) rfl ?_); refine box_event ?hg (N := 2) ?hd (cs := #[.slice A0_0 l0_0.length c0_0, .int .i64 a0_1]) (t := 24) ?hr ?_; (case hd => rfl); (case hg => rfl); (case hr => first | (go_simp; done) | (go_simp; rfl)); intro gb101 hg w5 hbox hb; have n0_ := Aside0.mk (below_step (qfb4_) hb); have n1_ := Aside0.mk (hbox); have n2_ := Aside0.mk ((by rw [hg]; exact (below_size (qfb4_)) : w.heap.size ≤ gb101)); have n3_ := Aside0.mk ((by rw [hg]; exact (below_size (qfb4_)) : w.heap.size ≤ gb101)); clear HB; have HB := n0_; have BK101 := n1_; have GW101 := n2_; have GE101 := n3_; clear n0_ n1_ n2_ n3_; clear hb hbox hg; have hcz6_0 : w5.cell? ⟨gb101, 0, none⟩ = some (.slice A0_0 l0_0.length c0_0) := (blk_cell BK101.out 0).trans rfl; have hcz6_1 : w5.cell? ⟨gb101, 1, none⟩ = some (.int .i64 a0_1) := (blk_cell BK101.out 1).trans rfl; have hfz6_0 := blk_frozen BK101.out 0; have hfz6_1 := blk_frozen BK101.out 1) | ((with_reducible refine gate_dst (N := 18) rfl ?_); refine Kd.R_make Kd.bool _ 4 rfl (N := 18) rfl 72 _ _ rfl (l0_0.length : Int) rfl rfl Tryz.underlying72 (.bool false) 1 info4 rfl (by decide) (by omega) false (ok := fun _ => True) (okp := fun _ => True) rfl (fun _ hk => hk) trivial (of_decide_eq_true (qfb2_)) (Nat.le_trans (Nat.mul_le_mul_right _ (of_decide_eq_true (qfb2_) : (l0_0.length : Int).toNat ≤ 281474976710656)) (by omega)) (Below.refl _ _) (Nat.le_refl _) ?_; intro v103 w7 ho8 hb hg_ hnew_; clear hg_ hnew_; (first | rw [← Ny102.out] at ho8 | (simp only [Int.reduceToNat] at ho8; rw [← Ny102.out] at ho8)); have n0_ := Aside0.mk (Kd.R_lower ho8 (below_size (qfb0_))); have n1_ := Aside0.mk (blk_below (g := gb101) (o := .cells #[.slice A0_0 l0_0.length c0_0, .int .i64 a0_1] 24 (0, 0)) (qfb1_) hb); have n2_ := Aside0.mk (below_step (qfb0_) hb); clear BK101; clear HB; have HO104 := n0_; have BK101 := n1_; have HB := n2_; clear n0_ n1_ n2_; clear hb ho8) | ((with_reducible refine gate_dst (N := 20) rfl ?_); refine Kd.R_lit (Kd.int .i64) _ 3 ?hg (N := 20) ?hd (xs := ([a1] : List Int)) (inner := [.int .i64 a1]) (ok := fun _ => True) (okp := fun _ => True) ?hr ?hp (fun _ hk => hk) trivial (Below.refl _ _) (Nat.le_refl _) (by simp) ?_; (case hd => rfl); (case hg => rfl); (case hr => first | (go_simp; done) | (go_simp; rfl)); (case hp => exact (Reps.one (show Kd.M (Kd.int .i64) _ _ _ a1 [.int .i64 a1] from rfl) (Reps.none _ _))); intro v106 w9 ho10 hb hg_ hnew_; clear hg_ hnew_; (first | rw [← Ny105.out] at ho10 | (simp only [Int.reduceToNat] at ho10; rw [← Ny105.out] at ho10)); have n0_ := Aside0.mk (Kd.R_below (qfb10_) hb); have n1_ := Aside0.mk (Kd.R_lower ho10 (below_size (qfb0_))); have n2_ := Aside0.mk (blk_below (g := gb101) (o := .cells #[.slice A0_0 l0_0.length c0_0, .int .i64 a0_1] 24 (0, 0)) (qfb1_) hb); have n3_ := Aside0.mk (below_step (qfb0_) hb); clear HO104; clear BK101; clear HB; have HO104 := n0_; have HO107 := n1_; have BK101 := n2_; have HB := n3_; clear n0_ n1_ n2_ n3_; clear hb ho10) | ((with_reducible refine gate_dst (N := 21) rfl ?_); refine Kd.R_lit (Kd.int .i64) _ 3 ?hg (N := 21) ?hd (xs := ([1] : List Int)) (inner := [.int .i64 1]) (ok := fun _ => True) (okp := fun _ => True) ?hr ?hp (fun _ hk => hk) trivial (Below.refl _ _) (Nat.le_refl _) (by simp) ?_; (case hd => rfl); (case hg => rfl); (case hr => first | (go_simp; done) | (go_simp; rfl)); (case hp => exact (Reps.one (show Kd.M (Kd.int .i64) _ _ _ 1 [.int .i64 1] from rfl) (Reps.none _ _))); intro v109 w11 ho12 hb hg_ hnew_; clear hg_ hnew_; (first | rw [← Ny108.out] at ho12 | (simp only [Int.reduceToNat] at ho12; rw [← Ny108.out] at ho12)); have n0_ := Aside0.mk (Kd.R_below (qfb10_) hb); have n1_ := Aside0.mk (Kd.R_elder' (qfb11_) (Kd.R_base ho12) hb); have n2_ := Aside0.mk (Kd.R_lower (Kd.R_new' ho12 (Kd.R_lt (qfb11_))) (below_size (qfb0_))); have n3_ := Aside0.mk (blk_below (g := gb101) (o := .cells #[.slice A0_0 l0_0.length c0_0, .int .i64 a0_1] 24 (0, 0)) (qfb1_) hb); have n4_ := Aside0.mk (below_step (qfb0_) hb); clear HO104; clear HO107; clear BK101; clear HB; have HO104 := n0_; have HO107 := n1_; have HO110 := n2_; have BK101 := n3_; have HB := n4_; clear n0_ n1_ n2_ n3_ n4_; clear hb ho12)))
 go_loopg [7, 8, 9, 10] k (fun kq v7 v8 v9 v10 w' => ∃ (x6_1 : List Bool) (x7_1 : List Int) (x8_1 : List Int) (x9_1 : Int) (x10_1 : List Int), v9 = .int .i64 x9_1 ∧ Aside0 (grommetref12_walk.l0 kq x6_1 x7_1 x8_1 x9_1 x10_1 l0_0 a0_1 = some (r1, r2)) ∧ Aside0 (kq ≤ k) ∧ Aside0 (Kd.R Kd.bool 4 w' w.heap.size (fun _ => True) v103 x6_1) ∧ Aside0 (Kd.R (Kd.int .i64) 3 w' w.heap.size (fun k_ => some k_ ≠ (v8 : Value).ownBlock ∧ some k_ ≠ (v10 : Value).ownBlock) v7 x7_1) ∧ Aside0 (Kd.R (Kd.int .i64) 3 w' w.heap.size (fun k_ => some k_ ≠ (v7 : Value).ownBlock ∧ some k_ ≠ (v10 : Value).ownBlock) v8 x8_1) ∧ Aside0 (Kd.R (Kd.int .i64) 3 w' w.heap.size (fun k_ => some k_ ≠ (v7 : Value).ownBlock ∧ some k_ ≠ (v8 : Value).ownBlock) v10 x10_1) ∧ Aside0 (w'.heap[gb101]? = some (.cells #[(.slice A0_0 l0_0.length c0_0), .int .i64 a0_1] 24 (0, 0))) ∧ Aside0 (Below w.heap.size w w'))
 case atStart => exact ⟨(y102), (y105), (y108), (0), (([] : List Int)), (by first | rfl | (simp; done) | (simp [*]; done)), H', ⟨Nat.le_refl _⟩, ⟨qfb10_⟩, ⟨by (with_reducible repeat (first | apply Kd.R_alloc | apply Kd.R_drewN | apply Kd.R_drew)); exact Kd.R_mono HO107.out (fun _ hk => ⟨hk.2, (by simp [Value.ownBlock])⟩)⟩, ⟨by (with_reducible repeat (first | apply Kd.R_alloc | apply Kd.R_drewN | apply Kd.R_drew)); exact Kd.R_mono HO110.out (fun _ hk => ⟨hk.2, (by simp [Value.ownBlock])⟩)⟩, ⟨by first | exact Kd.R_nil _ _ _ _ _ | exact Kd.N_nil _ _ _ _ _ | exact Kd.V_nil _ _ _ _ _ | exact Kd.Q_nil _ _ _ _ _ | exact Kd.S_nil _ _ _ _ _⟩, ⟨qfb1_⟩, ⟨qfb0_⟩⟩
 case round =>
  clear H'
  try clear p2
  try clear c3
  try clear c3b0
  try clear c3b1
  try clear c4
  try clear c4b0
  try clear c4b1
  try clear hcz6_0
  try clear hcz6_1
  try clear hfz6_0
  try clear hfz6_1
  obtain ⟨x6_1, x7_1, x8_1, x9_1, x10_1, rfl, HA, HK1, HO_6, HO_7, HO_8, HO_10, BK101, HB⟩ := hrel
  cases gk with
  | zero => exact absurd HA.out (by simp [grommetref12_walk.l0])
  | succ k1 =>
   have H := HA.out
   clear HA
   simp only [grommetref12_walk.l0] at H
   by_cases c13 : (x7_1.length : Int) > 0
   rotate_left
   ·
    rw [if_neg c13] at H
    have c13b0 : decide (0 < (x7_1.length : Int)) = false := decide_eq_false c13
    have c13b1 : decide (0 < x7_1.length) = false := decide_eq_false (by omega)
    clear c13
    simp only [Option.some.injEq, Prod.mk.injEq] at H
    obtain ⟨rfl, rfl⟩ := H
    obtain ⟨Ao51, co51, eo51⟩ := Kd.R_slice HO_7.out
    subst eo51
    go_wp2
    repeat (go_quiet (fail); try go_wp2)
    go_ret2
    exact ⟨_, by first | rfl | (simp [errW_none, errW_some] <;> rfl) | (simp [*, errW_none, errW_some] <;> rfl), by (with_reducible repeat (first | apply Kd.R_alloc | apply Kd.R_drewN | apply Kd.R_drew)); exact Kd.R_mono HO_10.out (fun _ hk => trivial), qfb0_⟩
   rw [if_pos c13] at H
   have c13b0 : decide (0 < (x7_1.length : Int)) = true := decide_eq_true c13
   have c13b1 : decide (0 < x7_1.length) = true := decide_eq_true (by omega)
   clear c13
   obtain ⟨ji14, hji14⟩ : ∃ j_ : Int, (wrap64 ((x7_1.length : Int) - 1)) = j_ := ⟨_, rfl⟩
   replace H : (if 0 ≤ (ji14) then (if (ji14) < (x7_1.length : Int) then (if 0 ≤ (wrap64 ((x8_1.length : Int) - 1)) then (if (wrap64 ((x8_1.length : Int) - 1)) < (x8_1.length : Int) then (if (ji14) ≤ (x7_1.length : Int) then ((some (x7_1.take ((ji14) : Int).toNat : List Int)).bind fun y113 => (if (wrap64 ((x8_1.length : Int) - 1)) ≤ (x8_1.length : Int) then ((some (x8_1.take ((wrap64 ((x8_1.length : Int) - 1)) : Int).toNat : List Int)).bind fun y116 => (if 0 ≤ (rd x7_1 (ji14)) then (if (rd x7_1 (ji14)) < (x6_1.length : Int) then (if rdOf false x6_1 (rd x7_1 (ji14)) = true then (grommetref12_walk.l0 k1 x6_1 y113 y116 x9_1 x10_1 l0_0 a0_1) else (if x10_1.length < 17592186044416 then (if (rd x7_1 (ji14)) < (l0_0.length : Int) then (grommetref12_walk.l1 k1 (x6_1.set ((rd x7_1 (ji14)) : Int).toNat true) y113 y116 (mx x9_1 (rd x8_1 (wrap64 ((x8_1.length : Int) - 1)))) (x10_1 ++ [rd x7_1 (ji14)]) (rd x8_1 (wrap64 ((x8_1.length : Int) - 1))) ((rd_T45 l0_0 (rd x7_1 (ji14))).f2) (wrap64 ((((rd_T45 l0_0 (rd x7_1 (ji14))).f2).length : Int) - 1)) l0_0 a0_1) else (none)) else (none))) else (none)) else (none))) else (none))) else (none)) else (none)) else (none)) else (none)) else (none)) = some (r1, r2) := by first | (rw [hji14] at H; exact H) | (simp only [hji14] at H ⊢; exact H)
   have hji14w : (IntKind.i64.wrap ((x7_1.length : Int) - 1)) = ji14 := (i64_w _).trans hji14
   by_cases c15 : 0 ≤ (ji14)
   rotate_left
   ·
    rw [if_neg c15] at H
    exact absurd H (by simp)
   rw [if_pos c15] at H
   have c15b0 : decide (0 ≤ (ji14)) = true := decide_eq_true c15
   clear c15
   by_cases c16 : (ji14) < (x7_1.length : Int)
   rotate_left
   ·
    rw [if_neg c16] at H
    exact absurd H (by simp)
   rw [if_pos c16] at H
   have c16b0 : decide ((ji14) < (x7_1.length : Int)) = true := decide_eq_true c16
   clear c16
   obtain ⟨ji17, hji17⟩ : ∃ j_ : Int, (wrap64 ((x8_1.length : Int) - 1)) = j_ := ⟨_, rfl⟩
   replace H : (if 0 ≤ (ji17) then (if (ji17) < (x8_1.length : Int) then (if (ji14) ≤ (x7_1.length : Int) then ((some (x7_1.take ((ji14) : Int).toNat : List Int)).bind fun y113 => (if (ji17) ≤ (x8_1.length : Int) then ((some (x8_1.take ((ji17) : Int).toNat : List Int)).bind fun y116 => (if 0 ≤ (rd x7_1 (ji14)) then (if (rd x7_1 (ji14)) < (x6_1.length : Int) then (if rdOf false x6_1 (rd x7_1 (ji14)) = true then (grommetref12_walk.l0 k1 x6_1 y113 y116 x9_1 x10_1 l0_0 a0_1) else (if x10_1.length < 17592186044416 then (if (rd x7_1 (ji14)) < (l0_0.length : Int) then (grommetref12_walk.l1 k1 (x6_1.set ((rd x7_1 (ji14)) : Int).toNat true) y113 y116 (mx x9_1 (rd x8_1 (ji17))) (x10_1 ++ [rd x7_1 (ji14)]) (rd x8_1 (ji17)) ((rd_T45 l0_0 (rd x7_1 (ji14))).f2) (wrap64 ((((rd_T45 l0_0 (rd x7_1 (ji14))).f2).length : Int) - 1)) l0_0 a0_1) else (none)) else (none))) else (none)) else (none))) else (none))) else (none)) else (none)) else (none)) = some (r1, r2) := by first | (rw [hji17] at H; exact H) | (simp only [hji17] at H ⊢; exact H)
   have hji17w : (IntKind.i64.wrap ((x8_1.length : Int) - 1)) = ji17 := (i64_w _).trans hji17
   by_cases c18 : 0 ≤ (ji17)
   rotate_left
   ·
    rw [if_neg c18] at H
    exact absurd H (by simp)
   rw [if_pos c18] at H
   have c18b0 : decide (0 ≤ (ji17)) = true := decide_eq_true c18
   clear c18
   by_cases c19 : (ji17) < (x8_1.length : Int)
   rotate_left
   ·
    rw [if_neg c19] at H
    exact absurd H (by simp)
   rw [if_pos c19] at H
   have c19b0 : decide ((ji17) < (x8_1.length : Int)) = true := decide_eq_true c19
   clear c19
   by_cases c20 : (ji14) ≤ (x7_1.length : Int)
   rotate_left
   ·
    rw [if_neg c20] at H
    exact absurd H (by simp)
   rw [if_pos c20] at H
   have c20b0 := eq_true c20
   have c20b1 : decide ((ji14) ≤ (x7_1.length : Int)) = true := decide_eq_true c20
   clear c20
   obtain ⟨y113, hy113⟩ : ∃ y_ : List Int, y_ = (x7_1.take ((ji14) : Int).toNat) := ⟨_, rfl⟩
   replace H : (if (ji17) ≤ (x8_1.length : Int) then ((some (x8_1.take ((ji17) : Int).toNat : List Int)).bind fun y116 => (if 0 ≤ (rd x7_1 (ji14)) then (if (rd x7_1 (ji14)) < (x6_1.length : Int) then (if rdOf false x6_1 (rd x7_1 (ji14)) = true then (grommetref12_walk.l0 k1 x6_1 y113 y116 x9_1 x10_1 l0_0 a0_1) else (if x10_1.length < 17592186044416 then (if (rd x7_1 (ji14)) < (l0_0.length : Int) then (grommetref12_walk.l1 k1 (x6_1.set ((rd x7_1 (ji14)) : Int).toNat true) y113 y116 (mx x9_1 (rd x8_1 (ji17))) (x10_1 ++ [rd x7_1 (ji14)]) (rd x8_1 (ji17)) ((rd_T45 l0_0 (rd x7_1 (ji14))).f2) (wrap64 ((((rd_T45 l0_0 (rd x7_1 (ji14))).f2).length : Int) - 1)) l0_0 a0_1) else (none)) else (none))) else (none)) else (none))) else (none)) = some (r1, r2) := by first | (rw [hy113]; with_reducible exact H) | (have H2_ := (Option.bind_some _ _).symm.trans H; rw [hy113]; with_reducible exact H2_) | (have H2_ := (Option.bind_some _ _).symm.trans H; with_reducible exact H2_) | with_reducible exact H | (rw [hy113]; exact H) | exact H
   have Ny113 := Aside0.mk hy113
   clear hy113
   by_cases c21 : (ji17) ≤ (x8_1.length : Int)
   rotate_left
   ·
    rw [if_neg c21] at H
    exact absurd H (by simp)
   rw [if_pos c21] at H
   have c21b0 := eq_true c21
   have c21b1 : decide ((ji17) ≤ (x8_1.length : Int)) = true := decide_eq_true c21
   clear c21
   obtain ⟨y116, hy116⟩ : ∃ y_ : List Int, y_ = (x8_1.take ((ji17) : Int).toNat) := ⟨_, rfl⟩
   replace H : (if 0 ≤ (rd x7_1 (ji14)) then (if (rd x7_1 (ji14)) < (x6_1.length : Int) then (if rdOf false x6_1 (rd x7_1 (ji14)) = true then (grommetref12_walk.l0 k1 x6_1 y113 y116 x9_1 x10_1 l0_0 a0_1) else (if x10_1.length < 17592186044416 then (if (rd x7_1 (ji14)) < (l0_0.length : Int) then (grommetref12_walk.l1 k1 (x6_1.set ((rd x7_1 (ji14)) : Int).toNat true) y113 y116 (mx x9_1 (rd x8_1 (ji17))) (x10_1 ++ [rd x7_1 (ji14)]) (rd x8_1 (ji17)) ((rd_T45 l0_0 (rd x7_1 (ji14))).f2) (wrap64 ((((rd_T45 l0_0 (rd x7_1 (ji14))).f2).length : Int) - 1)) l0_0 a0_1) else (none)) else (none))) else (none)) else (none)) = some (r1, r2) := by first | (rw [hy116]; with_reducible exact H) | (have H2_ := (Option.bind_some _ _).symm.trans H; rw [hy116]; with_reducible exact H2_) | (have H2_ := (Option.bind_some _ _).symm.trans H; with_reducible exact H2_) | with_reducible exact H | (rw [hy116]; exact H) | exact H
   have Ny116 := Aside0.mk hy116
   clear hy116
   by_cases c22 : 0 ≤ (rd x7_1 (ji14))
   rotate_left
   ·
    rw [if_neg c22] at H
    exact absurd H (by simp)
   rw [if_pos c22] at H
   have c22b0 : decide (0 ≤ (rd x7_1 (ji14))) = true := decide_eq_true c22
   clear c22
   by_cases c23 : (rd x7_1 (ji14)) < (x6_1.length : Int)
   rotate_left
   ·
    rw [if_neg c23] at H
    exact absurd H (by simp)
   rw [if_pos c23] at H
   have c23b0 : decide ((rd x7_1 (ji14)) < (x6_1.length : Int)) = true := decide_eq_true c23
   clear c23
   obtain ⟨bq24, hbq24⟩ : ∃ b_ : Bool, b_ = (rdOf false x6_1 (rd x7_1 (ji14))) := ⟨_, rfl⟩
   replace H : (if bq24 = true then (grommetref12_walk.l0 k1 x6_1 y113 y116 x9_1 x10_1 l0_0 a0_1) else (if x10_1.length < 17592186044416 then (if (rd x7_1 (ji14)) < (l0_0.length : Int) then (grommetref12_walk.l1 k1 (x6_1.set ((rd x7_1 (ji14)) : Int).toNat true) y113 y116 (mx x9_1 (rd x8_1 (ji17))) (x10_1 ++ [rd x7_1 (ji14)]) (rd x8_1 (ji17)) ((rd_T45 l0_0 (rd x7_1 (ji14))).f2) (wrap64 ((((rd_T45 l0_0 (rd x7_1 (ji14))).f2).length : Int) - 1)) l0_0 a0_1) else (none)) else (none))) = some (r1, r2) := by rw [← hbq24] at H; exact H
   have Nbq24 := Aside0.mk hbq24
   clear hbq24
   by_cases c25 : bq24 = true
   ·
    subst c25
    have H1 : (grommetref12_walk.l0 k1 x6_1 y113 y116 x9_1 x10_1 l0_0 a0_1) = some (r1, r2) := by rw [if_pos rfl] at H; exact H
    clear H
    have H := H1
    clear H1
    have H' := Aside0.mk H
    clear H
    obtain ⟨Ao26, co26, eo26⟩ := Kd.R_slice HO_7.out
    subst eo26
    have p111 : 0 ≤ ((ji14) : Int) := of_decide_eq_true (qfb2_)
    have q111 : (ji14) < (x7_1.length : Int) := of_decide_eq_true (qfb2_)
    obtain ⟨ad111, e111, hx111_0⟩ := Kd.at_int (Kd.R_reads' HO_7.out).2.2 (ji14) p111 q111
    cases e111
    replace p111 := eq_true p111
    replace q111 := eq_true q111
    obtain ⟨Ao27, co27, eo27⟩ := Kd.R_slice HO_8.out
    subst eo27
    have p112 : 0 ≤ ((ji17) : Int) := of_decide_eq_true (qfb2_)
    have q112 : (ji17) < (x8_1.length : Int) := of_decide_eq_true (qfb2_)
    obtain ⟨ad112, e112, hx112_0⟩ := Kd.at_int (Kd.R_reads' HO_8.out).2.2 (ji17) p112 q112
    cases e112
    replace p112 := eq_true p112
    replace q112 := eq_true q112
    have q28 : ((ji14) : Int) ≤ ((x7_1.length : Int) : Int) := of_decide_eq_true (qfb2_)
    obtain ⟨i028, hi028, _, hsz28, _⟩ := info_parts info3
    have hcut28 := cut_to (P := Tryz.prog) 40 3 .i64 Tryz.underlying40 hi028 (some ad111) x7_1.length co26 (ji14) (of_decide_eq_true (qfb2_)) q28 (Kd.R_reads' HO_7.out).2.1
    have hr28 := Kd.R_take (m := ((ji14) : Int).toNat) HO_7.out (by omega)
    have hy28 : y113.length = ((ji14) : Int).toNat := (by rw [Ny113.out, List.length_take]; omega)
    rw [← Ny113.out] at hr28
    rw [← hy28] at hr28 hcut28
    clear hy28 hi028 hsz28 HO_7
    have HO115 := Aside0.mk hr28
    clear hr28
    replace q28 := eq_true q28
    have q29 : ((ji17) : Int) ≤ ((x8_1.length : Int) : Int) := of_decide_eq_true (qfb2_)
    obtain ⟨i029, hi029, _, hsz29, _⟩ := info_parts info3
    have hcut29 := cut_to (P := Tryz.prog) 40 3 .i64 Tryz.underlying40 hi029 (some ad112) x8_1.length co27 (ji17) (of_decide_eq_true (qfb2_)) q29 (Kd.R_reads' HO_8.out).2.1
    have hr29 := Kd.R_take (m := ((ji17) : Int).toNat) HO_8.out (by omega)
    have hy29 : y116.length = ((ji17) : Int).toNat := (by rw [Ny116.out, List.length_take]; omega)
    rw [← Ny116.out] at hr29
    rw [← hy29] at hr29 hcut29
    clear hy29 hi029 hsz29 HO_8
    have HO118 := Aside0.mk hr29
    clear hr29
    replace q29 := eq_true q29
    obtain ⟨Ao30, co30, eo30⟩ := Kd.R_slice HO_6.out
    subst eo30
    have p119 : 0 ≤ ((rd x7_1 (ji14)) : Int) := of_decide_eq_true (qfb2_)
    have q119 : (rd x7_1 (ji14)) < (x6_1.length : Int) := of_decide_eq_true (qfb2_)
    obtain ⟨ad119, e119, hx119_0⟩ := Kd.at_bool (Kd.R_reads' HO_6.out).2.2 (rd x7_1 (ji14)) p119 q119
    (try rw [← Nbq24.out] at hx119_0)
    (try rw [← Nbq24.out] at hw119_0)
    cases e119
    replace p119 := eq_true p119
    replace q119 := eq_true q119
    go_wp2
    repeat (go_quiet (fail); try go_wp2)
    go_roundg k1
    case measure => have := HK1.out; omega
    case rel => exact ⟨(x6_1), (y113), (y116), (x9_1), (x10_1), (by first | rfl | (simp; done) | (simp [*]; done)), (by first | exact H' | (rw [← Nbq24.out]; exact H')), ⟨by have := HK1.out; omega⟩, ⟨qfb7_⟩, ⟨qfb6_⟩, ⟨qfb5_⟩, ⟨qfb3_⟩, ⟨qfb1_⟩, ⟨qfb0_⟩⟩
   replace c25 := Bool.eq_false_iff.mpr c25
   subst c25
   have H1 : (if x10_1.length < 17592186044416 then (if (rd x7_1 (ji14)) < (l0_0.length : Int) then (grommetref12_walk.l1 k1 (x6_1.set ((rd x7_1 (ji14)) : Int).toNat true) y113 y116 (mx x9_1 (rd x8_1 (ji17))) (x10_1 ++ [rd x7_1 (ji14)]) (rd x8_1 (ji17)) ((rd_T45 l0_0 (rd x7_1 (ji14))).f2) (wrap64 ((((rd_T45 l0_0 (rd x7_1 (ji14))).f2).length : Int) - 1)) l0_0 a0_1) else (none)) else (none)) = some (r1, r2) := by rw [if_neg (show ¬ (false = true) by decide)] at H; exact H
   clear H
   have H := H1
   clear H1
   obtain ⟨y120, hy120⟩ : ∃ y_ : List Bool, y_ = (x6_1.set ((rd x7_1 (ji14)) : Int).toNat true) := ⟨_, rfl⟩
   replace H : (if x10_1.length < 17592186044416 then (if (rd x7_1 (ji14)) < (l0_0.length : Int) then (grommetref12_walk.l1 k1 y120 y113 y116 (mx x9_1 (rd x8_1 (ji17))) (x10_1 ++ [rd x7_1 (ji14)]) (rd x8_1 (ji17)) ((rd_T45 l0_0 (rd x7_1 (ji14))).f2) (wrap64 ((((rd_T45 l0_0 (rd x7_1 (ji14))).f2).length : Int) - 1)) l0_0 a0_1) else (none)) else (none)) = some (r1, r2) := by first | (rw [hy120]; with_reducible exact H) | (have H2_ := (Option.bind_some _ _).symm.trans H; rw [hy120]; with_reducible exact H2_) | (have H2_ := (Option.bind_some _ _).symm.trans H; with_reducible exact H2_) | with_reducible exact H | (rw [hy120]; exact H) | exact H
   have Ny120 := Aside0.mk hy120
   clear hy120
   by_cases c32 : x10_1.length < 17592186044416
   rotate_left
   ·
    rw [if_neg c32] at H
    exact absurd H (by simp)
   rw [if_pos c32] at H
   have LMc32 := Aside0.mk c32
   clear c32
   obtain ⟨y121, hy121⟩ : ∃ y_ : List Int, y_ = (x10_1 ++ [rd x7_1 (ji14)]) := ⟨_, rfl⟩
   replace H : (if (rd x7_1 (ji14)) < (l0_0.length : Int) then (grommetref12_walk.l1 k1 y120 y113 y116 (mx x9_1 (rd x8_1 (ji17))) y121 (rd x8_1 (ji17)) ((rd_T45 l0_0 (rd x7_1 (ji14))).f2) (wrap64 ((((rd_T45 l0_0 (rd x7_1 (ji14))).f2).length : Int) - 1)) l0_0 a0_1) else (none)) = some (r1, r2) := by first | (rw [hy121]; with_reducible exact H) | (have H2_ := (Option.bind_some _ _).symm.trans H; rw [hy121]; with_reducible exact H2_) | (have H2_ := (Option.bind_some _ _).symm.trans H; with_reducible exact H2_) | with_reducible exact H | (rw [hy121]; exact H) | exact H
   have Ny121 := Aside0.mk hy121
   clear hy121
   obtain ⟨ji33, hji33⟩ : ∃ j_ : Int, (mx x9_1 (rd x8_1 (ji17))) = j_ := ⟨_, rfl⟩
   replace H : (if (rd x7_1 (ji14)) < (l0_0.length : Int) then (grommetref12_walk.l1 k1 y120 y113 y116 ji33 y121 (rd x8_1 (ji17)) ((rd_T45 l0_0 (rd x7_1 (ji14))).f2) (wrap64 ((((rd_T45 l0_0 (rd x7_1 (ji14))).f2).length : Int) - 1)) l0_0 a0_1) else (none)) = some (r1, r2) := by first | (rw [hji33] at H; exact H) | (simp only [hji33] at H ⊢; exact H)
   have hji33_ : (if x9_1 < (rd x8_1 (ji17)) then (rd x8_1 (ji17)) else x9_1) = ji33 := hji33
   by_cases c34 : (rd x7_1 (ji14)) < (l0_0.length : Int)
   rotate_left
   ·
    rw [if_neg c34] at H
    exact absurd H (by simp)
   rw [if_pos c34] at H
   have c34b0 : decide ((rd x7_1 (ji14)) < (l0_0.length : Int)) = true := decide_eq_true c34
   clear c34
   have H' := Aside0.mk H
   clear H
   obtain ⟨Ao35, co35, eo35⟩ := Kd.R_slice HO_7.out
   subst eo35
   have p111 : 0 ≤ ((ji14) : Int) := of_decide_eq_true (qfb2_)
   have q111 : (ji14) < (x7_1.length : Int) := of_decide_eq_true (qfb2_)
   obtain ⟨ad111, e111, hx111_0⟩ := Kd.at_int (Kd.R_reads' HO_7.out).2.2 (ji14) p111 q111
   cases e111
   replace p111 := eq_true p111
   replace q111 := eq_true q111
   obtain ⟨Ao36, co36, eo36⟩ := Kd.R_slice HO_8.out
   subst eo36
   have p112 : 0 ≤ ((ji17) : Int) := of_decide_eq_true (qfb2_)
   have q112 : (ji17) < (x8_1.length : Int) := of_decide_eq_true (qfb2_)
   obtain ⟨ad112, e112, hx112_0⟩ := Kd.at_int (Kd.R_reads' HO_8.out).2.2 (ji17) p112 q112
   cases e112
   replace p112 := eq_true p112
   replace q112 := eq_true q112
   have q37 : ((ji14) : Int) ≤ ((x7_1.length : Int) : Int) := of_decide_eq_true (qfb2_)
   obtain ⟨i037, hi037, _, hsz37, _⟩ := info_parts info3
   have hcut37 := cut_to (P := Tryz.prog) 40 3 .i64 Tryz.underlying40 hi037 (some ad111) x7_1.length co35 (ji14) (of_decide_eq_true (qfb2_)) q37 (Kd.R_reads' HO_7.out).2.1
   have hr37 := Kd.R_take (m := ((ji14) : Int).toNat) HO_7.out (by omega)
   have hy37 : y113.length = ((ji14) : Int).toNat := (by rw [Ny113.out, List.length_take]; omega)
   rw [← Ny113.out] at hr37
   rw [← hy37] at hr37 hcut37
   clear hy37 hi037 hsz37 HO_7
   have HO115 := Aside0.mk hr37
   clear hr37
   replace q37 := eq_true q37
   have q38 : ((ji17) : Int) ≤ ((x8_1.length : Int) : Int) := of_decide_eq_true (qfb2_)
   obtain ⟨i038, hi038, _, hsz38, _⟩ := info_parts info3
   have hcut38 := cut_to (P := Tryz.prog) 40 3 .i64 Tryz.underlying40 hi038 (some ad112) x8_1.length co36 (ji17) (of_decide_eq_true (qfb2_)) q38 (Kd.R_reads' HO_8.out).2.1
   have hr38 := Kd.R_take (m := ((ji17) : Int).toNat) HO_8.out (by omega)
   have hy38 : y116.length = ((ji17) : Int).toNat := (by rw [Ny116.out, List.length_take]; omega)
   rw [← Ny116.out] at hr38
   rw [← hy38] at hr38 hcut38
   clear hy38 hi038 hsz38 HO_8
   have HO118 := Aside0.mk hr38
   clear hr38
   replace q38 := eq_true q38
   obtain ⟨Ao39, co39, eo39⟩ := Kd.R_slice HO_6.out
   subst eo39
   have p119 : 0 ≤ ((rd x7_1 (ji14)) : Int) := of_decide_eq_true (qfb2_)
   have q119 : (rd x7_1 (ji14)) < (x6_1.length : Int) := of_decide_eq_true (qfb2_)
   obtain ⟨ad119, e119, hx119_0⟩ := Kd.at_bool (Kd.R_reads' HO_6.out).2.2 (rd x7_1 (ji14)) p119 q119
   (try rw [← Nbq24.out] at hx119_0)
   (try rw [← Nbq24.out] at hw119_0)
   cases e119
   replace p119 := eq_true p119
   replace q119 := eq_true q119
   have p31 : 0 ≤ ((rd x7_1 (ji14)) : Int) := of_decide_eq_true (qfb2_)
   have q31 : ((rd x7_1 (ji14)) : Int) < ((x6_1.length : Int) : Int) := of_decide_eq_true (qfb2_)
   obtain ⟨go31, co31, eo31, gb31, gl31, cl31, HG31⟩ := Kd.R_form HO_6.out (by omega)
   (first | cases eo31 | (injection eo31 with ea_ en_ ec_; (first | subst ea_ | (injection ea_ with ea_; subst ea_)); subst ec_; clear en_))
   have GB31 := Aside0.mk gb31
   have GG31 := Aside0.mk HG31
   clear gb31 gl31 HG31
   (first | simp only [add_plain] at hx119_0 | skip)
   obtain ⟨hx31_0, hf31_0⟩ := Kd.R_celln false HO_6.out ((rd x7_1 (ji14)) : Int) p31 q31
   replace p31 := eq_true p31
   replace q31 := eq_true q31
   have HP40 := Kd.R_putg HO_6.out ((rd x7_1 (ji14)) : Int) true
   go_wp2_with (first | ((with_reducible refine gate_store (t := 4) (p := 53) rfl ?_); (try (rw [drewN_self wr]; generalize hq_ : World.drewN wr _ = wr; have n0_ := Aside0.mk (Kd.R_at hq_ HO_6.out); have n1_ := Aside0.mk (Kd.R_at hq_ HO115.out); have n2_ := Aside0.mk (Kd.R_at hq_ HO118.out); have n3_ := Aside0.mk (Kd.R_at hq_ HO_10.out); have n4_ := Aside0.mk (blk_at hq_ BK101.out); have n5_ := Aside0.mk (below_at hq_ HB.out); clear hq_ HO_6 HO115 HO118 HO_10 BK101 HB; have HO_6 := n0_; have HO115 := n1_; have HO118 := n2_; have HO_10 := n3_; have BK101 := n4_; have HB := n5_; clear n0_ n1_ n2_ n3_ n4_ n5_; (try (have HP40 := Kd.R_putg HO_6.out ((rd x7_1 (ji14)) : Int) true)); (try (have h9_ := Kd.R_celln false HO_6.out ((rd x7_1 (ji14)) : Int) (of_eq_true p31) (of_eq_true q31); clear hx31_0 hf31_0; have hx31_0 := h9_.1; have hf31_0 := h9_.2; clear h9_)))); refine store_event (t := 4) (p := 53) (v := ?vo_w41) (w1 := (wr.setCell ⟨go31, ((rd x7_1 (ji14)) : Int).toNat, none⟩ (.bool true))) ?hg ?ho ?hn ?hr ?_; (case ho => rfl); (case hg => rfl); (case hn => rfl); (case hr => first | (go_simp; done) | (go_simp; rfl)); intro w41 hw; have hg : wr.grownBy w41 (some go31) := (by rw [hw]; exact HP40.2); have hp_ : Kd.R Kd.bool 4 w41 w.heap.size (fun _ => True) (.slice (some ⟨go31, 0, none⟩) x6_1.length co39) y120 := (by rw [hw, Ny120.out]; exact HP40.1); clear HP40; have n0_ := Aside0.mk (hp_); have n1_ := Aside0.mk (Kd.R_over' (v := (.slice (some ⟨go31, 0, none⟩) x6_1.length co39)) (qfb6_) (Kd.R_typed HO_6.out) (by decide) hg); have n2_ := Aside0.mk (Kd.R_over' (v := (.slice (some ⟨go31, 0, none⟩) x6_1.length co39)) (qfb5_) (Kd.R_typed HO_6.out) (by decide) hg); have n3_ := Aside0.mk (Kd.R_over' (v := (.slice (some ⟨go31, 0, none⟩) x6_1.length co39)) (qfb3_) (Kd.R_typed HO_6.out) (by decide) hg); have n4_ := Aside0.mk (blk_grown (g := gb101) (o := .cells #[.slice A0_0 l0_0.length c0_0, .int .i64 a0_1] 24 (0, 0)) (qfb1_) hg (Kd.R_ne HO_6.out BK101.out (by decide))); have n5_ := Aside0.mk ((by rw [hw]; exact below_set (HB.out) GB31.out : Below w.heap.size w w41)); clear HO_6; clear HO115; clear HO118; clear HO_10; clear BK101; clear HB; have HO_6 := n0_; have HO115 := n1_; have HO118 := n2_; have HO_10 := n3_; have BK101 := n4_; have HB := n5_; clear n0_ n1_ n2_ n3_ n4_ n5_; clear hg hw hp_) | ((with_reducible refine gate_builtin (b := .append) (xs := #[.tmp 54, .tmp 56]) rfl ?_); at_builtin; refine Kd.R_append (Kd.int .i64) (w0 := w) w.heap.size rfl (.tmp 54) (.tmp 56) 40 3 (.int .i64 0) 8 rfl Tryz.underlying40 info3 rfl (by decide) (by omega) u10 x10_1 (rd x7_1 (ji14)) [.int .i64 (rd x7_1 (ji14))] (fun k_ => some k_ ≠ (.slice (some ad111) y113.length co35 : Value).ownBlock ∧ some k_ ≠ (.slice (some ad112) y116.length co36 : Value).ownBlock) (fun _ => False) rfl rfl ?aP (fun _ hk => hk.elim) ?aF ?aO ?aB ?aS ?aL ?_; (case aP => exact rfl); (case aB => exact (qfb0_)); (case aF => exact (fun k_ hk => ⟨Kd.fresh' (Kd.R_lt (qfb6_)) k_ hk, Kd.fresh' (Kd.R_lt (qfb5_)) k_ hk⟩)); (case aO => exact (qfb3_)); (case aS => exact (below_size (qfb0_))); (case aL => have := LMc32.out; omega); intro v122 w42 ho hb hg hat; rw [← Ny121.out] at ho; have n0_ := Aside0.mk (Kd.R_over' (qfb7_) (Kd.R_typed (qfb3_)) (by decide) hg); have n1_ := Aside0.mk (Kd.R_after (ok := (fun k_ => some k_ ≠ (.slice (some ad112) y116.length co36 : Value).ownBlock)) (qfb6_) hg hat); have n2_ := Aside0.mk (Kd.R_after (ok := (fun k_ => some k_ ≠ (.slice (some ad111) y113.length co35 : Value).ownBlock)) (qfb5_) hg hat); have n3_ := Aside0.mk (blk_grown (g := gb101) (o := .cells #[.slice A0_0 l0_0.length c0_0, .int .i64 a0_1] 24 (0, 0)) (qfb1_) hg (Kd.R_ne HO_10.out BK101.out (by decide))); have n4_ := Aside0.mk (hb); have n5_ := Aside0.mk (ho); clear HO_6; clear HO115; clear HO118; clear BK101; clear HB; clear HO_10; have HO_6 := n0_; have HO115 := n1_; have HO118 := n2_; have BK101 := n3_; have HB := n4_; have HO123 := n5_; clear n0_ n1_ n2_ n3_ n4_ n5_; clear ho hb hg hat; have hcz43_0 : w42.cell? ⟨gb101, 0, none⟩ = some (.slice A0_0 l0_0.length c0_0) := (blk_cell BK101.out 0).trans rfl; have hcz43_1 : w42.cell? ⟨gb101, 1, none⟩ = some (.int .i64 a0_1) := (blk_cell BK101.out 1).trans rfl; have hfz43_0 := blk_frozen BK101.out 0; have hfz43_1 := blk_frozen BK101.out 1; have p124 : 0 ≤ ((rd x7_1 (ji14)) : Int) := of_decide_eq_true (qfb2_); have q124 : (rd x7_1 (ji14)) < (l0_0.length : Int) := of_decide_eq_true (qfb2_); obtain ⟨ad124, A124_2, c124_2, e124, hx124_0, hx124_1, hx124_2, hl124_2, hi124_2⟩ := at_T45 HR0_0.out (rd x7_1 (ji14)) p124 q124; cases e124; replace hx124_0 := (HB.out.cell (World.block_lt_of_cell? w _ hx124_0)).trans hx124_0; replace hx124_1 := (HB.out.cell (World.block_lt_of_cell? w _ hx124_1)).trans hx124_1; replace hx124_2 := (HB.out.cell (World.block_lt_of_cell? w _ hx124_2)).trans hx124_2; have HR124_2 := Aside0.mk hi124_2; have HC124_2 := Aside0.mk hl124_2; clear hi124_2 hl124_2; replace p124 := eq_true p124; replace q124 := eq_true q124))
   repeat (go_quiet (first | ((with_reducible refine gate_store (t := 4) (p := 53) rfl ?_); (try (rw [drewN_self wr]; generalize hq_ : World.drewN wr _ = wr; have n0_ := Aside0.mk (Kd.R_at hq_ HO_6.out); have n1_ := Aside0.mk (Kd.R_at hq_ HO115.out); have n2_ := Aside0.mk (Kd.R_at hq_ HO118.out); have n3_ := Aside0.mk (Kd.R_at hq_ HO_10.out); have n4_ := Aside0.mk (blk_at hq_ BK101.out); have n5_ := Aside0.mk (below_at hq_ HB.out); clear hq_ HO_6 HO115 HO118 HO_10 BK101 HB; have HO_6 := n0_; have HO115 := n1_; have HO118 := n2_; have HO_10 := n3_; have BK101 := n4_; have HB := n5_; clear n0_ n1_ n2_ n3_ n4_ n5_; (try (have HP40 := Kd.R_putg HO_6.out ((rd x7_1 (ji14)) : Int) true)); (try (have h9_ := Kd.R_celln false HO_6.out ((rd x7_1 (ji14)) : Int) (of_eq_true p31) (of_eq_true q31); clear hx31_0 hf31_0; have hx31_0 := h9_.1; have hf31_0 := h9_.2; clear h9_)))); refine store_event (t := 4) (p := 53) (v := ?vo_w41) (w1 := (wr.setCell ⟨go31, ((rd x7_1 (ji14)) : Int).toNat, none⟩ (.bool true))) ?hg ?ho ?hn ?hr ?_; (case ho => rfl); (case hg => rfl); (case hn => rfl); (case hr => first | (go_simp; done) | (go_simp; rfl)); intro w41 hw; have hg : wr.grownBy w41 (some go31) := (by rw [hw]; exact HP40.2); have hp_ : Kd.R Kd.bool 4 w41 w.heap.size (fun _ => True) (.slice (some ⟨go31, 0, none⟩) x6_1.length co39) y120 := (by rw [hw, Ny120.out]; exact HP40.1); clear HP40; have n0_ := Aside0.mk (hp_); have n1_ := Aside0.mk (Kd.R_over' (v := (.slice (some ⟨go31, 0, none⟩) x6_1.length co39)) (qfb6_) (Kd.R_typed HO_6.out) (by decide) hg); have n2_ := Aside0.mk (Kd.R_over' (v := (.slice (some ⟨go31, 0, none⟩) x6_1.length co39)) (qfb5_) (Kd.R_typed HO_6.out) (by decide) hg); have n3_ := Aside0.mk (Kd.R_over' (v := (.slice (some ⟨go31, 0, none⟩) x6_1.length co39)) (qfb3_) (Kd.R_typed HO_6.out) (by decide) hg); have n4_ := Aside0.mk (blk_grown (g := gb101) (o := .cells #[.slice A0_0 l0_0.length c0_0, .int .i64 a0_1] 24 (0, 0)) (qfb1_) hg (Kd.R_ne HO_6.out BK101.out (by decide))); have n5_ := Aside0.mk ((by rw [hw]; exact below_set (HB.out) GB31.out : Below w.heap.size w w41)); clear HO_6; clear HO115; clear HO118; clear HO_10; clear BK101; clear HB; have HO_6 := n0_; have HO115 := n1_; have HO118 := n2_; have HO_10 := n3_; have BK101 := n4_; have HB := n5_; clear n0_ n1_ n2_ n3_ n4_ n5_; clear hg hw hp_) | ((with_reducible refine gate_builtin (b := .append) (xs := #[.tmp 54, .tmp 56]) rfl ?_); at_builtin; refine Kd.R_append (Kd.int .i64) (w0 := w) w.heap.size rfl (.tmp 54) (.tmp 56) 40 3 (.int .i64 0) 8 rfl Tryz.underlying40 info3 rfl (by decide) (by omega) u10 x10_1 (rd x7_1 (ji14)) [.int .i64 (rd x7_1 (ji14))] (fun k_ => some k_ ≠ (.slice (some ad111) y113.length co35 : Value).ownBlock ∧ some k_ ≠ (.slice (some ad112) y116.length co36 : Value).ownBlock) (fun _ => False) rfl rfl ?aP (fun _ hk => hk.elim) ?aF ?aO ?aB ?aS ?aL ?_; (case aP => exact rfl); (case aB => exact (qfb0_)); (case aF => exact (fun k_ hk => ⟨Kd.fresh' (Kd.R_lt (qfb6_)) k_ hk, Kd.fresh' (Kd.R_lt (qfb5_)) k_ hk⟩)); (case aO => exact (qfb3_)); (case aS => exact (below_size (qfb0_))); (case aL => have := LMc32.out; omega); intro v122 w42 ho hb hg hat; rw [← Ny121.out] at ho; have n0_ := Aside0.mk (Kd.R_over' (qfb7_) (Kd.R_typed (qfb3_)) (by decide) hg); have n1_ := Aside0.mk (Kd.R_after (ok := (fun k_ => some k_ ≠ (.slice (some ad112) y116.length co36 : Value).ownBlock)) (qfb6_) hg hat); have n2_ := Aside0.mk (Kd.R_after (ok := (fun k_ => some k_ ≠ (.slice (some ad111) y113.length co35 : Value).ownBlock)) (qfb5_) hg hat); have n3_ := Aside0.mk (blk_grown (g := gb101) (o := .cells #[.slice A0_0 l0_0.length c0_0, .int .i64 a0_1] 24 (0, 0)) (qfb1_) hg (Kd.R_ne HO_10.out BK101.out (by decide))); have n4_ := Aside0.mk (hb); have n5_ := Aside0.mk (ho); clear HO_6; clear HO115; clear HO118; clear BK101; clear HB; clear HO_10; have HO_6 := n0_; have HO115 := n1_; have HO118 := n2_; have BK101 := n3_; have HB := n4_; have HO123 := n5_; clear n0_ n1_ n2_ n3_ n4_ n5_; clear ho hb hg hat; have hcz43_0 : w42.cell? ⟨gb101, 0, none⟩ = some (.slice A0_0 l0_0.length c0_0) := (blk_cell BK101.out 0).trans rfl; have hcz43_1 : w42.cell? ⟨gb101, 1, none⟩ = some (.int .i64 a0_1) := (blk_cell BK101.out 1).trans rfl; have hfz43_0 := blk_frozen BK101.out 0; have hfz43_1 := blk_frozen BK101.out 1; have p124 : 0 ≤ ((rd x7_1 (ji14)) : Int) := of_decide_eq_true (qfb2_); have q124 : (rd x7_1 (ji14)) < (l0_0.length : Int) := of_decide_eq_true (qfb2_); obtain ⟨ad124, A124_2, c124_2, e124, hx124_0, hx124_1, hx124_2, hl124_2, hi124_2⟩ := at_T45 HR0_0.out (rd x7_1 (ji14)) p124 q124; cases e124; replace hx124_0 := (HB.out.cell (World.block_lt_of_cell? w _ hx124_0)).trans hx124_0; replace hx124_1 := (HB.out.cell (World.block_lt_of_cell? w _ hx124_1)).trans hx124_1; replace hx124_2 := (HB.out.cell (World.block_lt_of_cell? w _ hx124_2)).trans hx124_2; have HR124_2 := Aside0.mk hi124_2; have HC124_2 := Aside0.mk hl124_2; clear hi124_2 hl124_2; replace p124 := eq_true p124; replace q124 := eq_true q124)); try go_wp2_with (first | ((with_reducible refine gate_store (t := 4) (p := 53) rfl ?_); (try (rw [drewN_self wr]; generalize hq_ : World.drewN wr _ = wr; have n0_ := Aside0.mk (Kd.R_at hq_ HO_6.out); have n1_ := Aside0.mk (Kd.R_at hq_ HO115.out); have n2_ := Aside0.mk (Kd.R_at hq_ HO118.out); have n3_ := Aside0.mk (Kd.R_at hq_ HO_10.out); have n4_ := Aside0.mk (blk_at hq_ BK101.out); have n5_ := Aside0.mk (below_at hq_ HB.out); clear hq_ HO_6 HO115 HO118 HO_10 BK101 HB; have HO_6 := n0_; have HO115 := n1_; have HO118 := n2_; have HO_10 := n3_; have BK101 := n4_; have HB := n5_; clear n0_ n1_ n2_ n3_ n4_ n5_; (try (have HP40 := Kd.R_putg HO_6.out ((rd x7_1 (ji14)) : Int) true)); (try (have h9_ := Kd.R_celln false HO_6.out ((rd x7_1 (ji14)) : Int) (of_eq_true p31) (of_eq_true q31); clear hx31_0 hf31_0; have hx31_0 := h9_.1; have hf31_0 := h9_.2; clear h9_)))); refine store_event (t := 4) (p := 53) (v := ?vo_w41) (w1 := (wr.setCell ⟨go31, ((rd x7_1 (ji14)) : Int).toNat, none⟩ (.bool true))) ?hg ?ho ?hn ?hr ?_; (case ho => rfl); (case hg => rfl); (case hn => rfl); (case hr => first | (go_simp; done) | (go_simp; rfl)); intro w41 hw; have hg : wr.grownBy w41 (some go31) := (by rw [hw]; exact HP40.2); have hp_ : Kd.R Kd.bool 4 w41 w.heap.size (fun _ => True) (.slice (some ⟨go31, 0, none⟩) x6_1.length co39) y120 := (by rw [hw, Ny120.out]; exact HP40.1); clear HP40; have n0_ := Aside0.mk (hp_); have n1_ := Aside0.mk (Kd.R_over' (v := (.slice (some ⟨go31, 0, none⟩) x6_1.length co39)) (qfb6_) (Kd.R_typed HO_6.out) (by decide) hg); have n2_ := Aside0.mk (Kd.R_over' (v := (.slice (some ⟨go31, 0, none⟩) x6_1.length co39)) (qfb5_) (Kd.R_typed HO_6.out) (by decide) hg); have n3_ := Aside0.mk (Kd.R_over' (v := (.slice (some ⟨go31, 0, none⟩) x6_1.length co39)) (qfb3_) (Kd.R_typed HO_6.out) (by decide) hg); have n4_ := Aside0.mk (blk_grown (g := gb101) (o := .cells #[.slice A0_0 l0_0.length c0_0, .int .i64 a0_1] 24 (0, 0)) (qfb1_) hg (Kd.R_ne HO_6.out BK101.out (by decide))); have n5_ := Aside0.mk ((by rw [hw]; exact below_set (HB.out) GB31.out : Below w.heap.size w w41)); clear HO_6; clear HO115; clear HO118; clear HO_10; clear BK101; clear HB; have HO_6 := n0_; have HO115 := n1_; have HO118 := n2_; have HO_10 := n3_; have BK101 := n4_; have HB := n5_; clear n0_ n1_ n2_ n3_ n4_ n5_; clear hg hw hp_) | ((with_reducible refine gate_builtin (b := .append) (xs := #[.tmp 54, .tmp 56]) rfl ?_); at_builtin; refine Kd.R_append (Kd.int .i64) (w0 := w) w.heap.size rfl (.tmp 54) (.tmp 56) 40 3 (.int .i64 0) 8 rfl Tryz.underlying40 info3 rfl (by decide) (by omega) u10 x10_1 (rd x7_1 (ji14)) [.int .i64 (rd x7_1 (ji14))] (fun k_ => some k_ ≠ (.slice (some ad111) y113.length co35 : Value).ownBlock ∧ some k_ ≠ (.slice (some ad112) y116.length co36 : Value).ownBlock) (fun _ => False) rfl rfl ?aP (fun _ hk => hk.elim) ?aF ?aO ?aB ?aS ?aL ?_; (case aP => exact rfl); (case aB => exact (qfb0_)); (case aF => exact (fun k_ hk => ⟨Kd.fresh' (Kd.R_lt (qfb6_)) k_ hk, Kd.fresh' (Kd.R_lt (qfb5_)) k_ hk⟩)); (case aO => exact (qfb3_)); (case aS => exact (below_size (qfb0_))); (case aL => have := LMc32.out; omega); intro v122 w42 ho hb hg hat; rw [← Ny121.out] at ho; have n0_ := Aside0.mk (Kd.R_over' (qfb7_) (Kd.R_typed (qfb3_)) (by decide) hg); have n1_ := Aside0.mk (Kd.R_after (ok := (fun k_ => some k_ ≠ (.slice (some ad112) y116.length co36 : Value).ownBlock)) (qfb6_) hg hat); have n2_ := Aside0.mk (Kd.R_after (ok := (fun k_ => some k_ ≠ (.slice (some ad111) y113.length co35 : Value).ownBlock)) (qfb5_) hg hat); have n3_ := Aside0.mk (blk_grown (g := gb101) (o := .cells #[.slice A0_0 l0_0.length c0_0, .int .i64 a0_1] 24 (0, 0)) (qfb1_) hg (Kd.R_ne HO_10.out BK101.out (by decide))); have n4_ := Aside0.mk (hb); have n5_ := Aside0.mk (ho); clear HO_6; clear HO115; clear HO118; clear BK101; clear HB; clear HO_10; have HO_6 := n0_; have HO115 := n1_; have HO118 := n2_; have BK101 := n3_; have HB := n4_; have HO123 := n5_; clear n0_ n1_ n2_ n3_ n4_ n5_; clear ho hb hg hat; have hcz43_0 : w42.cell? ⟨gb101, 0, none⟩ = some (.slice A0_0 l0_0.length c0_0) := (blk_cell BK101.out 0).trans rfl; have hcz43_1 : w42.cell? ⟨gb101, 1, none⟩ = some (.int .i64 a0_1) := (blk_cell BK101.out 1).trans rfl; have hfz43_0 := blk_frozen BK101.out 0; have hfz43_1 := blk_frozen BK101.out 1; have p124 : 0 ≤ ((rd x7_1 (ji14)) : Int) := of_decide_eq_true (qfb2_); have q124 : (rd x7_1 (ji14)) < (l0_0.length : Int) := of_decide_eq_true (qfb2_); obtain ⟨ad124, A124_2, c124_2, e124, hx124_0, hx124_1, hx124_2, hl124_2, hi124_2⟩ := at_T45 HR0_0.out (rd x7_1 (ji14)) p124 q124; cases e124; replace hx124_0 := (HB.out.cell (World.block_lt_of_cell? w _ hx124_0)).trans hx124_0; replace hx124_1 := (HB.out.cell (World.block_lt_of_cell? w _ hx124_1)).trans hx124_1; replace hx124_2 := (HB.out.cell (World.block_lt_of_cell? w _ hx124_2)).trans hx124_2; have HR124_2 := Aside0.mk hi124_2; have HC124_2 := Aside0.mk hl124_2; clear hi124_2 hl124_2; replace p124 := eq_true p124; replace q124 := eq_true q124)))
   go_loopg [7, 8, 14] k1 (fun kq v7 v8 v14 w' => ∃ (x7_2 : List Int) (x8_2 : List Int) (x14_2 : Int), v14 = .int .i64 x14_2 ∧ Aside0 (grommetref12_walk.l1 kq y120 x7_2 x8_2 ji33 y121 (rd x8_1 (ji17)) ((rd_T45 l0_0 (rd x7_1 (ji14))).f2) x14_2 l0_0 a0_1 = some (r1, r2)) ∧ Aside0 (kq ≤ k1) ∧ Aside0 (Kd.R Kd.bool 4 w' w.heap.size (fun _ => True) (.slice (some ⟨go31, 0, none⟩) x6_1.length co39) y120) ∧ Aside0 (Kd.R (Kd.int .i64) 3 w' w.heap.size (fun k_ => some k_ ≠ (v8 : Value).ownBlock ∧ some k_ ≠ (v122 : Value).ownBlock) v7 x7_2) ∧ Aside0 (Kd.R (Kd.int .i64) 3 w' w.heap.size (fun k_ => some k_ ≠ (v7 : Value).ownBlock ∧ some k_ ≠ (v122 : Value).ownBlock) v8 x8_2) ∧ Aside0 (Kd.R (Kd.int .i64) 3 w' w.heap.size (fun k_ => some k_ ≠ (v7 : Value).ownBlock ∧ some k_ ≠ (v8 : Value).ownBlock) v122 y121) ∧ Aside0 (w'.heap[gb101]? = some (.cells #[(.slice (some ad124) l0_0.length c0_0), .int .i64 a0_1] 24 (0, 0))) ∧ Aside0 (Below w.heap.size w w'))
   case atStart => exact ⟨(y113), (y116), (wrap64 ((((rd_T45 l0_0 (rd x7_1 (ji14))).f2).length : Int) - 1)), (by first | rfl | (simp; done) | (simp only [← hji14] <;> (first | rfl | simp)) | (simp [*]; done)), H', ⟨Nat.le_refl _⟩, ⟨qfb7_⟩, ⟨qfb6_⟩, ⟨qfb5_⟩, ⟨by (with_reducible repeat (first | apply Kd.R_alloc | apply Kd.R_drewN | apply Kd.R_drew)); exact HO123.out⟩, ⟨qfb1_⟩, ⟨qfb0_⟩⟩
   case round =>
    clear H'
    try clear c1
    try clear p1
    try clear q1
    try clear hx1
    try clear c2
    try clear p2
    try clear q2
    try clear c3
    try clear c3b0
    try clear c3b1
    try clear p3
    try clear q3
    try clear hx3
    try clear hf3
    try clear c4
    try clear c4b0
    try clear c4b1
    try clear p6
    try clear p11
    try clear q11
    try clear hx11
    try clear c12
    try clear p12
    try clear q12
    try clear hx12
    try clear c13
    try clear c13b0
    try clear c13b1
    try clear c15
    try clear c15b0
    try clear c16
    try clear c16b0
    try clear c18
    try clear c18b0
    try clear c19
    try clear c19b0
    try clear c20
    try clear c20b0
    try clear c20b1
    try clear c21
    try clear c21b0
    try clear c21b1
    try clear c22
    try clear c22b0
    try clear c23
    try clear c23b0
    try clear q24
    try clear c25
    try clear q28
    try clear q29
    try clear p31
    try clear q31
    try clear hx31
    try clear hf31
    try clear c32
    try clear c34
    try clear c34b0
    try clear q37
    try clear q38
    try clear hcz43_0
    try clear hcz43_1
    try clear hcz6_0
    try clear hcz6_1
    try clear hfz43_0
    try clear hfz43_1
    try clear hfz6_0
    try clear hfz6_1
    try clear hx111_0
    try clear hx112_0
    try clear hx119_0
    try clear hx124_0
    try clear hx124_1
    try clear hx124_2
    try clear hx31_0
    try clear p111
    try clear p112
    try clear p119
    try clear p124
    try clear p2
    try clear p31
    try clear q111
    try clear q112
    try clear q119
    try clear q124
    try clear q28
    try clear q29
    try clear q31
    try clear q37
    try clear q38
    obtain ⟨x7_2, x8_2, x14_2, rfl, HA, HK2, HO_6, HO_7, HO_8, HO_10, BK101, HB⟩ := hrel
    have hl6_2 := (Kd.R_reads' HO_6.out).1
    rw [hl6_2] at HO_6
    (try simp only [hl6_2])
    (try simp only [hl6_2] at BK101)
    (try simp only [hl6_2] at HO_7)
    (try simp only [hl6_2] at HO_8)
    (try simp only [hl6_2] at HO_10)
    cases gk with
    | zero => exact absurd HA.out (by simp [grommetref12_walk.l1])
    | succ k2 =>
     have H := HA.out
     clear HA
     simp only [grommetref12_walk.l1] at H
     by_cases c44 : x14_2 ≥ 0
     rotate_left
     ·
      rw [if_neg c44] at H
      have c44b0 : decide (0 ≤ x14_2) = false := decide_eq_false c44
      clear c44
      have H' := Aside0.mk H
      clear H
      go_wp2
      repeat (go_quiet (fail); try go_wp2)
      (try simp only [← hl6_2])
      go_roundg k2
      case measure => have := HK1.out; have := HK2.out; omega
      case rel => exact ⟨(y120), (x7_2), (x8_2), (ji33), (y121), (by first | rfl | (simp; done) | (simp only [← hji33] <;> (first | rfl | simp)) | (simp [*]; done)), (by first | exact H' | (rw [← Nbq24.out]; exact H')), ⟨by have := HK1.out; have := HK2.out; omega⟩, ⟨qfb18_⟩, ⟨by (try simp only [hl6_2]); (with_reducible repeat (first | apply Kd.R_alloc | apply Kd.R_drewN | apply Kd.R_drew)); exact HO_7.out⟩, ⟨by (try simp only [hl6_2]); (with_reducible repeat (first | apply Kd.R_alloc | apply Kd.R_drewN | apply Kd.R_drew)); exact HO_8.out⟩, ⟨qfb17_⟩, ⟨qfb16_⟩, ⟨qfb0_⟩⟩
     rw [if_pos c44] at H
     have c44b0 : decide (0 ≤ x14_2) = true := decide_eq_true c44
     clear c44
     by_cases c45 : 0 ≤ x14_2
     rotate_left
     ·
      rw [if_neg c45] at H
      exact absurd H (by simp)
     rw [if_pos c45] at H
     have c45b0 : decide (0 ≤ x14_2) = true := decide_eq_true c45
     clear c45
     by_cases c46 : x14_2 < (((rd_T45 l0_0 (rd x7_1 (ji14))).f2).length : Int)
     rotate_left
     ·
      rw [if_neg c46] at H
      exact absurd H (by simp)
     rw [if_pos c46] at H
     have c46b0 : decide (x14_2 < (((rd_T45 l0_0 (rd x7_1 (ji14))).f2).length : Int)) = true := decide_eq_true c46
     clear c46
     by_cases c47 : x7_2.length < 17592186044416
     rotate_left
     ·
      rw [if_neg c47] at H
      exact absurd H (by simp)
     rw [if_pos c47] at H
     have LMc47 := Aside0.mk c47
     clear c47
     obtain ⟨y126, hy126⟩ : ∃ y_ : List Int, y_ = (x7_2 ++ [rd ((rd_T45 l0_0 (rd x7_1 (ji14))).f2) x14_2]) := ⟨_, rfl⟩
     replace H : (if x8_2.length < 17592186044416 then (grommetref12_walk.l1 k2 y120 y126 (x8_2 ++ [wrap64 ((rd x8_1 (ji17)) + 1)]) ji33 y121 (rd x8_1 (ji17)) ((rd_T45 l0_0 (rd x7_1 (ji14))).f2) (wrap64 (x14_2 - 1)) l0_0 a0_1) else (none)) = some (r1, r2) := by first | (rw [hy126]; with_reducible exact H) | (have H2_ := (Option.bind_some _ _).symm.trans H; rw [hy126]; with_reducible exact H2_) | (have H2_ := (Option.bind_some _ _).symm.trans H; with_reducible exact H2_) | with_reducible exact H | (rw [hy126]; exact H) | exact H
     have Ny126 := Aside0.mk hy126
     clear hy126
     by_cases c48 : x8_2.length < 17592186044416
     rotate_left
     ·
      rw [if_neg c48] at H
      exact absurd H (by simp)
     rw [if_pos c48] at H
     have LMc48 := Aside0.mk c48
     clear c48
     obtain ⟨y129, hy129⟩ : ∃ y_ : List Int, y_ = (x8_2 ++ [wrap64 ((rd x8_1 (ji17)) + 1)]) := ⟨_, rfl⟩
     replace H : (grommetref12_walk.l1 k2 y120 y126 y129 ji33 y121 (rd x8_1 (ji17)) ((rd_T45 l0_0 (rd x7_1 (ji14))).f2) (wrap64 (x14_2 - 1)) l0_0 a0_1) = some (r1, r2) := by first | (rw [hy129]; with_reducible exact H) | (have H2_ := (Option.bind_some _ _).symm.trans H; rw [hy129]; with_reducible exact H2_) | (have H2_ := (Option.bind_some _ _).symm.trans H; with_reducible exact H2_) | with_reducible exact H | (rw [hy129]; exact H) | exact H
     have Ny129 := Aside0.mk hy129
     clear hy129
     have H' := Aside0.mk H
     clear H
     have p125 : 0 ≤ (x14_2 : Int) := of_decide_eq_true (qfb2_)
     have q125 : x14_2 < (((rd_T45 l0_0 (rd x7_1 (ji14))).f2).length : Int) := of_decide_eq_true (qfb2_)
     obtain ⟨ad125, e125, hx125_0⟩ := Kd.at_int HR124_2.out x14_2 p125 q125
     cases e125
     replace hx125_0 := (HB.out.cell (World.block_lt_of_cell? w _ hx125_0)).trans hx125_0
     replace p125 := eq_true p125
     replace q125 := eq_true q125
     go_wp2_with (first | ((with_reducible refine gate_builtin (b := .append) (xs := #[.tmp 74, .tmp 79]) rfl ?_); at_builtin; refine Kd.R_append (Kd.int .i64) (w0 := w) w.heap.size rfl (.tmp 74) (.tmp 79) 40 3 (.int .i64 0) 8 rfl Tryz.underlying40 info3 rfl (by decide) (by omega) u7 x7_2 (rd ((rd_T45 l0_0 (rd x7_1 (ji14))).f2) x14_2) [.int .i64 (rd ((rd_T45 l0_0 (rd x7_1 (ji14))).f2) x14_2)] (fun k_ => some k_ ≠ (u8 : Value).ownBlock ∧ some k_ ≠ (v122 : Value).ownBlock) (fun _ => False) rfl rfl ?aP (fun _ hk => hk.elim) ?aF ?aO ?aB ?aS ?aL ?_; (case aP => exact rfl); (case aB => exact (qfb0_)); (case aF => exact (fun k_ hk => ⟨Kd.fresh' (Kd.R_lt (qfb8_)) k_ hk, Kd.fresh' (Kd.R_lt (qfb3_)) k_ hk⟩)); (case aO => exact (qfb12_)); (case aS => exact (below_size (qfb0_))); (case aL => have := LMc47.out; omega); intro v127 w49 ho hb hg hat; rw [← Ny126.out] at ho; have n0_ := Aside0.mk (Kd.R_over' (qfb7_) (Kd.R_typed (qfb12_)) (by decide) hg); have n1_ := Aside0.mk (Kd.R_after (ok := (fun k_ => some k_ ≠ (v122 : Value).ownBlock)) (qfb14_) hg hat); have n2_ := Aside0.mk (Kd.R_after (ok := (fun k_ => some k_ ≠ (u8 : Value).ownBlock)) (qfb9_) hg hat); have n3_ := Aside0.mk (blk_grown (g := gb101) (o := .cells #[.slice (some ad124) l0_0.length c0_0, .int .i64 a0_1] 24 (0, 0)) (qfb1_) hg (Kd.R_ne HO_7.out BK101.out (by decide))); have n4_ := Aside0.mk (hb); have n5_ := Aside0.mk (ho); clear HO_6; clear HO_8; clear HO_10; clear BK101; clear HB; clear HO_7; have HO_6 := n0_; have HO_8 := n1_; have HO_10 := n2_; have BK101 := n3_; have HB := n4_; have HO128 := n5_; clear n0_ n1_ n2_ n3_ n4_ n5_; clear ho hb hg hat) | ((with_reducible refine gate_builtin (b := .append) (xs := #[.tmp 81, .tmp 84]) rfl ?_); at_builtin; refine Kd.R_append (Kd.int .i64) (w0 := w) w.heap.size rfl (.tmp 81) (.tmp 84) 40 3 (.int .i64 0) 8 rfl Tryz.underlying40 info3 rfl (by decide) (by omega) u8 x8_2 (wrap64 ((rd x8_1 (ji17)) + 1)) [.int .i64 (wrap64 ((rd x8_1 (ji17)) + 1))] (fun k_ => some k_ ≠ (v122 : Value).ownBlock ∧ some k_ ≠ (v127 : Value).ownBlock) (fun _ => False) rfl rfl ?aP (fun _ hk => hk.elim) ?aF ?aO ?aB ?aS ?aL ?_; (case aP => exact rfl); (case aB => exact (qfb0_)); (case aF => exact (fun k_ hk => ⟨Kd.fresh' (Kd.R_lt (qfb3_)) k_ hk, Kd.fresh' (Kd.R_lt (qfb15_)) k_ hk⟩)); (case aO => exact (qfb8_)); (case aS => exact (below_size (qfb0_))); (case aL => have := LMc48.out; omega); intro v130 w50 ho hb hg hat; rw [← Ny129.out] at ho; have n0_ := Aside0.mk (Kd.R_over' (qfb7_) (Kd.R_typed (qfb8_)) (by decide) hg); have n1_ := Aside0.mk (Kd.R_after (ok := (fun k_ => some k_ ≠ (v127 : Value).ownBlock)) (qfb9_) hg hat); have n2_ := Aside0.mk (blk_grown (g := gb101) (o := .cells #[.slice (some ad124) l0_0.length c0_0, .int .i64 a0_1] 24 (0, 0)) (qfb1_) hg (Kd.R_ne HO_8.out BK101.out (by decide))); have n3_ := Aside0.mk (Kd.R_after (ok := (fun k_ => some k_ ≠ (v122 : Value).ownBlock)) (qfb13_) hg hat); have n4_ := Aside0.mk (hb); have n5_ := Aside0.mk (ho); clear HO_6; clear HO_10; clear BK101; clear HO128; clear HB; clear HO_8; have HO_6 := n0_; have HO_10 := n1_; have BK101 := n2_; have HO128 := n3_; have HB := n4_; have HO131 := n5_; clear n0_ n1_ n2_ n3_ n4_ n5_; clear ho hb hg hat))
     repeat (go_quiet (first | ((with_reducible refine gate_builtin (b := .append) (xs := #[.tmp 74, .tmp 79]) rfl ?_); at_builtin; refine Kd.R_append (Kd.int .i64) (w0 := w) w.heap.size rfl (.tmp 74) (.tmp 79) 40 3 (.int .i64 0) 8 rfl Tryz.underlying40 info3 rfl (by decide) (by omega) u7 x7_2 (rd ((rd_T45 l0_0 (rd x7_1 (ji14))).f2) x14_2) [.int .i64 (rd ((rd_T45 l0_0 (rd x7_1 (ji14))).f2) x14_2)] (fun k_ => some k_ ≠ (u8 : Value).ownBlock ∧ some k_ ≠ (v122 : Value).ownBlock) (fun _ => False) rfl rfl ?aP (fun _ hk => hk.elim) ?aF ?aO ?aB ?aS ?aL ?_; (case aP => exact rfl); (case aB => exact (qfb0_)); (case aF => exact (fun k_ hk => ⟨Kd.fresh' (Kd.R_lt (qfb8_)) k_ hk, Kd.fresh' (Kd.R_lt (qfb3_)) k_ hk⟩)); (case aO => exact (qfb12_)); (case aS => exact (below_size (qfb0_))); (case aL => have := LMc47.out; omega); intro v127 w49 ho hb hg hat; rw [← Ny126.out] at ho; have n0_ := Aside0.mk (Kd.R_over' (qfb7_) (Kd.R_typed (qfb12_)) (by decide) hg); have n1_ := Aside0.mk (Kd.R_after (ok := (fun k_ => some k_ ≠ (v122 : Value).ownBlock)) (qfb14_) hg hat); have n2_ := Aside0.mk (Kd.R_after (ok := (fun k_ => some k_ ≠ (u8 : Value).ownBlock)) (qfb9_) hg hat); have n3_ := Aside0.mk (blk_grown (g := gb101) (o := .cells #[.slice (some ad124) l0_0.length c0_0, .int .i64 a0_1] 24 (0, 0)) (qfb1_) hg (Kd.R_ne HO_7.out BK101.out (by decide))); have n4_ := Aside0.mk (hb); have n5_ := Aside0.mk (ho); clear HO_6; clear HO_8; clear HO_10; clear BK101; clear HB; clear HO_7; have HO_6 := n0_; have HO_8 := n1_; have HO_10 := n2_; have BK101 := n3_; have HB := n4_; have HO128 := n5_; clear n0_ n1_ n2_ n3_ n4_ n5_; clear ho hb hg hat) | ((with_reducible refine gate_builtin (b := .append) (xs := #[.tmp 81, .tmp 84]) rfl ?_); at_builtin; refine Kd.R_append (Kd.int .i64) (w0 := w) w.heap.size rfl (.tmp 81) (.tmp 84) 40 3 (.int .i64 0) 8 rfl Tryz.underlying40 info3 rfl (by decide) (by omega) u8 x8_2 (wrap64 ((rd x8_1 (ji17)) + 1)) [.int .i64 (wrap64 ((rd x8_1 (ji17)) + 1))] (fun k_ => some k_ ≠ (v122 : Value).ownBlock ∧ some k_ ≠ (v127 : Value).ownBlock) (fun _ => False) rfl rfl ?aP (fun _ hk => hk.elim) ?aF ?aO ?aB ?aS ?aL ?_; (case aP => exact rfl); (case aB => exact (qfb0_)); (case aF => exact (fun k_ hk => ⟨Kd.fresh' (Kd.R_lt (qfb3_)) k_ hk, Kd.fresh' (Kd.R_lt (qfb15_)) k_ hk⟩)); (case aO => exact (qfb8_)); (case aS => exact (below_size (qfb0_))); (case aL => have := LMc48.out; omega); intro v130 w50 ho hb hg hat; rw [← Ny129.out] at ho; have n0_ := Aside0.mk (Kd.R_over' (qfb7_) (Kd.R_typed (qfb8_)) (by decide) hg); have n1_ := Aside0.mk (Kd.R_after (ok := (fun k_ => some k_ ≠ (v127 : Value).ownBlock)) (qfb9_) hg hat); have n2_ := Aside0.mk (blk_grown (g := gb101) (o := .cells #[.slice (some ad124) l0_0.length c0_0, .int .i64 a0_1] 24 (0, 0)) (qfb1_) hg (Kd.R_ne HO_8.out BK101.out (by decide))); have n3_ := Aside0.mk (Kd.R_after (ok := (fun k_ => some k_ ≠ (v122 : Value).ownBlock)) (qfb13_) hg hat); have n4_ := Aside0.mk (hb); have n5_ := Aside0.mk (ho); clear HO_6; clear HO_10; clear BK101; clear HO128; clear HB; clear HO_8; have HO_6 := n0_; have HO_10 := n1_; have BK101 := n2_; have HO128 := n3_; have HB := n4_; have HO131 := n5_; clear n0_ n1_ n2_ n3_ n4_ n5_; clear ho hb hg hat)); try go_wp2_with (first | ((with_reducible refine gate_builtin (b := .append) (xs := #[.tmp 74, .tmp 79]) rfl ?_); at_builtin; refine Kd.R_append (Kd.int .i64) (w0 := w) w.heap.size rfl (.tmp 74) (.tmp 79) 40 3 (.int .i64 0) 8 rfl Tryz.underlying40 info3 rfl (by decide) (by omega) u7 x7_2 (rd ((rd_T45 l0_0 (rd x7_1 (ji14))).f2) x14_2) [.int .i64 (rd ((rd_T45 l0_0 (rd x7_1 (ji14))).f2) x14_2)] (fun k_ => some k_ ≠ (u8 : Value).ownBlock ∧ some k_ ≠ (v122 : Value).ownBlock) (fun _ => False) rfl rfl ?aP (fun _ hk => hk.elim) ?aF ?aO ?aB ?aS ?aL ?_; (case aP => exact rfl); (case aB => exact (qfb0_)); (case aF => exact (fun k_ hk => ⟨Kd.fresh' (Kd.R_lt (qfb8_)) k_ hk, Kd.fresh' (Kd.R_lt (qfb3_)) k_ hk⟩)); (case aO => exact (qfb12_)); (case aS => exact (below_size (qfb0_))); (case aL => have := LMc47.out; omega); intro v127 w49 ho hb hg hat; rw [← Ny126.out] at ho; have n0_ := Aside0.mk (Kd.R_over' (qfb7_) (Kd.R_typed (qfb12_)) (by decide) hg); have n1_ := Aside0.mk (Kd.R_after (ok := (fun k_ => some k_ ≠ (v122 : Value).ownBlock)) (qfb14_) hg hat); have n2_ := Aside0.mk (Kd.R_after (ok := (fun k_ => some k_ ≠ (u8 : Value).ownBlock)) (qfb9_) hg hat); have n3_ := Aside0.mk (blk_grown (g := gb101) (o := .cells #[.slice (some ad124) l0_0.length c0_0, .int .i64 a0_1] 24 (0, 0)) (qfb1_) hg (Kd.R_ne HO_7.out BK101.out (by decide))); have n4_ := Aside0.mk (hb); have n5_ := Aside0.mk (ho); clear HO_6; clear HO_8; clear HO_10; clear BK101; clear HB; clear HO_7; have HO_6 := n0_; have HO_8 := n1_; have HO_10 := n2_; have BK101 := n3_; have HB := n4_; have HO128 := n5_; clear n0_ n1_ n2_ n3_ n4_ n5_; clear ho hb hg hat) | ((with_reducible refine gate_builtin (b := .append) (xs := #[.tmp 81, .tmp 84]) rfl ?_); at_builtin; refine Kd.R_append (Kd.int .i64) (w0 := w) w.heap.size rfl (.tmp 81) (.tmp 84) 40 3 (.int .i64 0) 8 rfl Tryz.underlying40 info3 rfl (by decide) (by omega) u8 x8_2 (wrap64 ((rd x8_1 (ji17)) + 1)) [.int .i64 (wrap64 ((rd x8_1 (ji17)) + 1))] (fun k_ => some k_ ≠ (v122 : Value).ownBlock ∧ some k_ ≠ (v127 : Value).ownBlock) (fun _ => False) rfl rfl ?aP (fun _ hk => hk.elim) ?aF ?aO ?aB ?aS ?aL ?_; (case aP => exact rfl); (case aB => exact (qfb0_)); (case aF => exact (fun k_ hk => ⟨Kd.fresh' (Kd.R_lt (qfb3_)) k_ hk, Kd.fresh' (Kd.R_lt (qfb15_)) k_ hk⟩)); (case aO => exact (qfb8_)); (case aS => exact (below_size (qfb0_))); (case aL => have := LMc48.out; omega); intro v130 w50 ho hb hg hat; rw [← Ny129.out] at ho; have n0_ := Aside0.mk (Kd.R_over' (qfb7_) (Kd.R_typed (qfb8_)) (by decide) hg); have n1_ := Aside0.mk (Kd.R_after (ok := (fun k_ => some k_ ≠ (v127 : Value).ownBlock)) (qfb9_) hg hat); have n2_ := Aside0.mk (blk_grown (g := gb101) (o := .cells #[.slice (some ad124) l0_0.length c0_0, .int .i64 a0_1] 24 (0, 0)) (qfb1_) hg (Kd.R_ne HO_8.out BK101.out (by decide))); have n3_ := Aside0.mk (Kd.R_after (ok := (fun k_ => some k_ ≠ (v122 : Value).ownBlock)) (qfb13_) hg hat); have n4_ := Aside0.mk (hb); have n5_ := Aside0.mk (ho); clear HO_6; clear HO_10; clear BK101; clear HO128; clear HB; clear HO_8; have HO_6 := n0_; have HO_10 := n1_; have BK101 := n2_; have HO128 := n3_; have HB := n4_; have HO131 := n5_; clear n0_ n1_ n2_ n3_ n4_ n5_; clear ho hb hg hat)))
     (try simp only [← hl6_2])
     go_roundg k2
     case measure => have := HK1.out; have := HK2.out; omega
     case rel => exact ⟨(y126), (y129), (wrap64 (x14_2 - 1)), (by first | rfl | (simp; done) | (simp [*]; done)), (by first | exact H' | (rw [← Nbq24.out]; exact H')), ⟨by have := HK1.out; have := HK2.out; omega⟩, ⟨qfb18_⟩, ⟨by (try simp only [hl6_2]); (with_reducible repeat (first | apply Kd.R_alloc | apply Kd.R_drewN | apply Kd.R_drew)); exact Kd.R_mono HO128.out (fun _ hk => ⟨hk.2, hk.1⟩)⟩, ⟨by (try simp only [hl6_2]); (with_reducible repeat (first | apply Kd.R_alloc | apply Kd.R_drewN | apply Kd.R_drew)); exact Kd.R_mono HO131.out (fun _ hk => ⟨hk.2, hk.1⟩)⟩, ⟨qfb17_⟩, ⟨qfb16_⟩, ⟨qfb0_⟩⟩
def grommetref12_Order.f (k : Nat) (l0_0 : List (S45)) (a0_1 : Int) : Option (List Int × Int) := (grommetref12_Right.f k l0_0 a0_1).bind fun t102 => (if t102 = true then ((grommetref12_walk.f k l0_0 a0_1 a0_1).bind fun bt103 => (some (bt103.1, 0))) else (some (([] : List Int), 1)))
theorem qwa0_ {P : Prop} (h_ : P := by repeat (first | (with_reducible first | exact HB.out | apply below_alloc | apply pw_below_drewN | apply below_drew1 | refine below_set ?_ GE101.out) | exact HB.out)) : P := h_
theorem qwa1_ {P : Prop} (h_ : P := by repeat (first | (with_reducible first | exact HB.out | apply below_alloc | apply pw_below_drewN | apply below_drew1) | exact HB.out)) : P := h_
theorem qwa2_ {P : Prop} (h_ : P := by first | ((repeat (first | (with_reducible first | exact HB.out | apply below_alloc | apply pw_below_drewN | apply below_drew1 | (refine Glob.below_set ?_ (by assumption) _ _ _)) | exact HB.out)); done) | (refine Drawn0.below ?_; repeat (first | exact Drawn0.refl _ | assumption | apply Drawn0.step))) : P := h_
theorem qwa3_ {P : Prop} (h_ : P := by (try simp only [List.map_toArray, List.map_cons, List.map_nil]); first | done | rfl | (simp only [List.length_drop, List.length_take]; rfl)) : P := h_
theorem qwa4_ {P : Prop} (h_ : P := by (with_reducible repeat (first | refine blk_drewN ?_ _ | refine blk_drew ?_ | refine blk_alloc ?_ _)); exact BK101.out) : P := h_
theorem qwa5_ {P : Prop} (h_ : P := by repeat (first | exact (Kd.C_below HR0_0.out HB.out) | (with_reducible refine Kd.C_alloc ?_ _) | (with_reducible refine Kd.C_drewN ?_ _) | (with_reducible refine Kd.C_drew ?_))) : P := h_
set_option maxHeartbeats 8000000 in
set_option maxRecDepth 100000 in
theorem grommetref12_Order.calls (k : Nat) (A0_0 : Option Addr) (c0_0 : Nat) (l0_0 : List (S45)) (a0_1 : Int) (r1 : List Int) (r2 : Int) (w : World) (hr0_0 : Kd.C k45 w A0_0 l0_0.length l0_0) (hc0_0 : l0_0.length ≤ c0_0) (hG : Glob.G w) (h : grommetref12_Order.f k l0_0 a0_1 = some (r1, r2)) :
  Calls Tryz.prog 32 #[.agg #[.slice A0_0 l0_0.length c0_0, .int .i64 a0_1]] w fun e w' => ∃ v0_ : Value, e = .returned (.tuple #[v0_, .int .i64 r2]) ∧ Kd.R (Kd.int .i64) 3 w' w.heap.size (fun _ => True) v0_ r1 ∧ Below w.heap.size w w' := by
 have hu24 := Tryz.underlying24
 have HR0_0 := Aside0.mk hr0_0
 have HC0_0 := Aside0.mk hc0_0
 clear hr0_0 hc0_0
 have HB := Aside0.mk (Below.refl w.heap.size w)
 have H : ((grommetref12_Right.f k l0_0 a0_1).bind fun t102 => (if t102 = true then ((grommetref12_walk.f k l0_0 a0_1 a0_1).bind fun bt103 => (some (bt103.1, 0))) else (some (([] : List Int), 1)))) = some (r1, r2) := h
 clear h
 replace H := Option.bind_eq_some_iff.mp H
 obtain ⟨t102, A20, H⟩ := H
 replace H : (if t102 = true then ((grommetref12_walk.f k l0_0 a0_1 a0_1).bind fun bt103 => (some (bt103.1, 0))) else (some (([] : List Int), 1))) = some (r1, r2) := H
 have A2 := Aside0.mk A20
 clear A20
 by_cases c3 : t102 = true
 rotate_left
 ·
  replace c3 := Bool.eq_false_iff.mpr c3
  subst c3
  have H1 : (some (([] : List Int), 1)) = some (r1, r2) := by rw [if_neg (show ¬ (false = true) by decide)] at H; exact H
  clear H
  have H := H1
  clear H1
  simp only [Option.some.injEq, Prod.mk.injEq] at H
  obtain ⟨rfl, rfl⟩ := H
  go_enter Tryz.func32, Tryz.ntmps32
  go_wp2_with (first | ((with_reducible refine gate_dst (N := 1) rfl ?_); refine box_event ?hg (N := 1) ?hd (cs := #[.slice A0_0 l0_0.length c0_0, .int .i64 a0_1]) (t := 24) ?hr ?_; (case hd => rfl); (case hg => rfl); (case hr => first | (go_simp; done) | (go_simp; rfl)); intro gb101 hg w10 hbox hb; have n0_ := Aside0.mk (below_step (qwa1_) hb); have n1_ := Aside0.mk (hbox); have n2_ := Aside0.mk ((by rw [hg]; exact (below_size (qwa1_)) : w.heap.size ≤ gb101)); have n3_ := Aside0.mk ((by rw [hg]; exact (below_size (qwa1_)) : w.heap.size ≤ gb101)); clear HB; have HB := n0_; have BK101 := n1_; have GW101 := n2_; have GE101 := n3_; clear n0_ n1_ n2_ n3_; clear hb hbox hg; have hcz11_0 : w10.cell? ⟨gb101, 0, none⟩ = some (.slice A0_0 l0_0.length c0_0) := (blk_cell BK101.out 0).trans rfl; have hcz11_1 : w10.cell? ⟨gb101, 1, none⟩ = some (.int .i64 a0_1) := (blk_cell BK101.out 1).trans rfl; have hfz11_0 := blk_frozen BK101.out 0; have hfz11_1 := blk_frozen BK101.out 1) | ((with_reducible refine gate_callee (f := 47) rfl ?_); refine goesL_ (some 7) rfl rfl Tryz.func47 (by kernel_rfl) rfl #[.agg #[.slice A0_0 l0_0.length c0_0, .int .i64 a0_1]] rfl (qwa3_) ?_; (with_reducible refine (grommetref12_Right.calls k _ _ l0_0 a0_1 false _ ?side1 ?side2 (hG.below (qwa2_)) A2.out).mono ?_); (case side1 => exact qwa5_); (case side2 => exact HC0_0.out); rintro e w12 ⟨rfl, hb⟩; refine ⟨_, rfl, ?_⟩; have n0_ := Aside0.mk (blk_below (g := gb101) (o := .cells #[.slice A0_0 l0_0.length c0_0, .int .i64 a0_1] 24 (0, 0)) (qwa4_) hb); have n1_ := Aside0.mk (below_step (qwa0_) hb); clear BK101; clear HB; have BK101 := n0_; have HB := n1_; clear n0_ n1_; (try clear hb)))
  go_ret2
  exact ⟨_, by first | rfl | (simp [errW_none, errW_some] <;> rfl) | (simp [*, errW_none, errW_some] <;> rfl), by first | exact Kd.R_nil _ _ _ _ _ | exact Kd.N_nil _ _ _ _ _ | exact Kd.V_nil _ _ _ _ _ | exact Kd.Q_nil _ _ _ _ _ | exact Kd.S_nil _ _ _ _ _, qwa0_⟩
 subst c3
 have H1 : ((grommetref12_walk.f k l0_0 a0_1 a0_1).bind fun bt103 => (some (bt103.1, 0))) = some (r1, r2) := by rw [if_pos rfl] at H; exact H
 clear H
 have H := H1
 clear H1
 replace H := Option.bind_eq_some_iff.mp H
 obtain ⟨⟨t103, t106⟩, A40, H⟩ := H
 replace H : (some (t103, 0)) = some (r1, r2) := H
 have A4 := Aside0.mk A40
 clear A40
 simp only [Option.some.injEq, Prod.mk.injEq] at H
 obtain ⟨rfl, rfl⟩ := H
 go_enter Tryz.func32, Tryz.ntmps32
 go_wp2_with (first | ((with_reducible refine gate_dst (N := 1) rfl ?_); refine box_event ?hg (N := 1) ?hd (cs := #[.slice A0_0 l0_0.length c0_0, .int .i64 a0_1]) (t := 24) ?hr ?_; (case hd => rfl); (case hg => rfl); (case hr => first | (go_simp; done) | (go_simp; rfl)); intro gb101 hg w5 hbox hb; have n0_ := Aside0.mk (below_step (qwa1_) hb); have n1_ := Aside0.mk (hbox); have n2_ := Aside0.mk ((by rw [hg]; exact (below_size (qwa1_)) : w.heap.size ≤ gb101)); have n3_ := Aside0.mk ((by rw [hg]; exact (below_size (qwa1_)) : w.heap.size ≤ gb101)); clear HB; have HB := n0_; have BK101 := n1_; have GW101 := n2_; have GE101 := n3_; clear n0_ n1_ n2_ n3_; clear hb hbox hg; have hcz6_0 : w5.cell? ⟨gb101, 0, none⟩ = some (.slice A0_0 l0_0.length c0_0) := (blk_cell BK101.out 0).trans rfl; have hcz6_1 : w5.cell? ⟨gb101, 1, none⟩ = some (.int .i64 a0_1) := (blk_cell BK101.out 1).trans rfl; have hfz6_0 := blk_frozen BK101.out 0; have hfz6_1 := blk_frozen BK101.out 1) | ((with_reducible refine gate_callee (f := 47) rfl ?_); refine goesL_ (some 7) rfl rfl Tryz.func47 (by kernel_rfl) rfl #[.agg #[.slice A0_0 l0_0.length c0_0, .int .i64 a0_1]] rfl (qwa3_) ?_; (with_reducible refine (grommetref12_Right.calls k _ _ l0_0 a0_1 true _ ?side1 ?side2 (hG.below (qwa2_)) A2.out).mono ?_); (case side1 => exact qwa5_); (case side2 => exact HC0_0.out); rintro e w7 ⟨rfl, hb⟩; refine ⟨_, rfl, ?_⟩; have n0_ := Aside0.mk (blk_below (g := gb101) (o := .cells #[.slice A0_0 l0_0.length c0_0, .int .i64 a0_1] 24 (0, 0)) (qwa4_) hb); have n1_ := Aside0.mk (below_step (qwa0_) hb); clear BK101; clear HB; have BK101 := n0_; have HB := n1_; clear n0_ n1_; (try clear hb); have hcz8_0 : w7.cell? ⟨gb101, 0, none⟩ = some (.slice A0_0 l0_0.length c0_0) := (blk_cell BK101.out 0).trans rfl; have hcz8_1 : w7.cell? ⟨gb101, 1, none⟩ = some (.int .i64 a0_1) := (blk_cell BK101.out 1).trans rfl; have hfz8_0 := blk_frozen BK101.out 0; have hfz8_1 := blk_frozen BK101.out 1) | ((with_reducible refine gate_callee (f := 48) rfl ?_); refine goesL_ (some 13) rfl rfl Tryz.func48 (by kernel_rfl) rfl #[.agg #[.slice A0_0 l0_0.length c0_0, .int .i64 a0_1], .int .i64 a0_1] rfl (qwa3_) ?_; (with_reducible refine (grommetref12_walk.calls k _ _ l0_0 a0_1 a0_1 t103 t106 _ ?side1 ?side2 (hG.below (qwa2_)) A4.out).mono ?_); (case side1 => exact qwa5_); (case side2 => exact HC0_0.out); rintro e w9 ⟨v104, rfl, ho0, hb⟩; refine ⟨_, rfl, ?_⟩; have n0_ := Aside0.mk (Kd.R_lower ho0 (below_size (qwa0_))); have n1_ := Aside0.mk (blk_below (g := gb101) (o := .cells #[.slice A0_0 l0_0.length c0_0, .int .i64 a0_1] 24 (0, 0)) (qwa4_) hb); have n2_ := Aside0.mk (below_step (qwa0_) hb); clear BK101; clear HB; have HO105 := n0_; have BK101 := n1_; have HB := n2_; clear n0_ n1_ n2_; (try clear hb); (try clear ho0)))
 go_ret2
 exact ⟨_, by first | rfl | (simp [errW_none, errW_some] <;> rfl) | (simp [*, errW_none, errW_some] <;> rfl), by (with_reducible repeat (first | apply Kd.R_alloc | apply Kd.R_drewN | apply Kd.R_drew)); exact HO105.out, qwa0_⟩
def grommetref14_Size.l0 : Nat → List Int → Int → Int → List (S45) → Int → Option (Int × Int)
  | 0, _, _, _, _, _ => none
  | k + 1, x4, x6, x7, x102000, x102001 => if x7 < (x4.length : Int) then (if 0 ≤ x7 then (if 0 ≤ (rd x4 x7) then (if (rd x4 x7) < (x102000.length : Int) then (grommetref14_Size.l0 k x4 (wrap64 (x6 + (((rd_T45 x102000 (rd x4 x7)).f2).length : Int))) (wrap64 (x7 + 1)) x102000 x102001) else (none)) else (none)) else (none)) else (some (x6, 0))
def grommetref14_Size.f (k : Nat) (l0_0 : List (S45)) (a0_1 : Int) : Option (Int × Int) := (grommetref12_Order.f k l0_0 a0_1).bind fun bt102 => (if bt102.2 = 0 then (grommetref14_Size.l0 k bt102.1 1 0 l0_0 a0_1) else (some (0, bt102.2)))
theorem qva0_ {P : Prop} (h_ : P := by repeat (first | (with_reducible first | exact HB.out | apply below_alloc | apply pw_below_drewN | apply below_drew1 | refine below_set ?_ GE101.out) | exact HB.out)) : P := h_
theorem qva1_ {P : Prop} (h_ : P := by repeat (first | (with_reducible first | exact HB.out | apply below_alloc | apply pw_below_drewN | apply below_drew1) | exact HB.out)) : P := h_
theorem qva2_ {P : Prop} (h_ : P := by first | ((repeat (first | (with_reducible first | exact HB.out | apply below_alloc | apply pw_below_drewN | apply below_drew1 | (refine Glob.below_set ?_ (by assumption) _ _ _)) | exact HB.out)); done) | (refine Drawn0.below ?_; repeat (first | exact Drawn0.refl _ | assumption | apply Drawn0.step))) : P := h_
theorem qva3_ {P : Prop} (h_ : P := by (with_reducible repeat (first | refine blk_drewN ?_ _ | refine blk_drew ?_ | refine blk_alloc ?_ _)); exact BK101.out) : P := h_
theorem qva4_ {P : Prop} (h_ : P := by first | (with_reducible assumption) | assumption) : P := h_
theorem qva5_ {P : Prop} (h_ : P := by first | rfl | (simp; done) | (simp [*]; done)) : P := h_
theorem qva6_ {P : Prop} (h_ : P := by repeat (first | exact (Kd.C_below HR0_0.out HB.out) | (with_reducible refine Kd.C_alloc ?_ _) | (with_reducible refine Kd.C_drewN ?_ _) | (with_reducible refine Kd.C_drew ?_))) : P := h_
set_option maxHeartbeats 8000000 in
set_option maxRecDepth 100000 in
theorem grommetref14_Size.calls (k : Nat) (A0_0 : Option Addr) (c0_0 : Nat) (l0_0 : List (S45)) (a0_1 : Int) (r1 : Int) (r2 : Int) (w : World) (hr0_0 : Kd.C k45 w A0_0 l0_0.length l0_0) (hc0_0 : l0_0.length ≤ c0_0) (hG : Glob.G w) (h : grommetref14_Size.f k l0_0 a0_1 = some (r1, r2)) :
  Calls Tryz.prog 14 #[.agg #[.slice A0_0 l0_0.length c0_0, .int .i64 a0_1]] w fun e w' => e = .returned (.tuple #[.int .i64 r1, .int .i64 r2]) ∧ Below w.heap.size w w' := by
 have hu24 := Tryz.underlying24
 have HR0_0 := Aside0.mk hr0_0
 have HC0_0 := Aside0.mk hc0_0
 clear hr0_0 hc0_0
 have HB := Aside0.mk (Below.refl w.heap.size w)
 have H : ((grommetref12_Order.f k l0_0 a0_1).bind fun bt102 => (if bt102.2 = 0 then (grommetref14_Size.l0 k bt102.1 1 0 l0_0 a0_1) else (some (0, bt102.2)))) = some (r1, r2) := h
 clear h
 replace H := Option.bind_eq_some_iff.mp H
 obtain ⟨⟨t102, t105⟩, A20, H⟩ := H
 replace H : (if t105 = 0 then (grommetref14_Size.l0 k t102 1 0 l0_0 a0_1) else (some (0, t105))) = some (r1, r2) := H
 have A2 := Aside0.mk A20
 clear A20
 by_cases c3 : t105 = 0
 rotate_left
 ·
  rw [if_neg c3] at H
  have c3b0 : (t105 == 0) = false := beq_eq_false_iff_ne.mpr c3
  have c3b1 : (t105 != 0) = true := bne_iff_ne.mpr c3
  simp only [Option.some.injEq, Prod.mk.injEq] at H
  obtain ⟨rfl, rfl⟩ := H
  go_enter Tryz.func14, Tryz.ntmps14
  go_wp2_with (first | ((with_reducible refine gate_dst (N := 1) rfl ?_); refine box_event ?hg (N := 1) ?hd (cs := #[.slice A0_0 l0_0.length c0_0, .int .i64 a0_1]) (t := 24) ?hr ?_; (case hd => rfl); (case hg => rfl); (case hr => first | (go_simp; done) | (go_simp; rfl)); intro gb101 hg w14 hbox hb; have n0_ := Aside0.mk (below_step (qva1_) hb); have n1_ := Aside0.mk (hbox); have n2_ := Aside0.mk ((by rw [hg]; exact (below_size (qva1_)) : w.heap.size ≤ gb101)); have n3_ := Aside0.mk ((by rw [hg]; exact (below_size (qva1_)) : w.heap.size ≤ gb101)); clear HB; have HB := n0_; have BK101 := n1_; have GW101 := n2_; have GE101 := n3_; clear n0_ n1_ n2_ n3_; clear hb hbox hg; have hcz15_0 : w14.cell? ⟨gb101, 0, none⟩ = some (.slice A0_0 l0_0.length c0_0) := (blk_cell BK101.out 0).trans rfl; have hcz15_1 : w14.cell? ⟨gb101, 1, none⟩ = some (.int .i64 a0_1) := (blk_cell BK101.out 1).trans rfl; have hfz15_0 := blk_frozen BK101.out 0; have hfz15_1 := blk_frozen BK101.out 1) | (go_at_call 32; (with_reducible refine (grommetref12_Order.calls k _ _ l0_0 a0_1 t102 t105 _ ?side1 ?side2 (hG.below (qva2_)) A2.out).mono ?_); (case side1 => exact qva6_); (case side2 => exact HC0_0.out); rintro e w16 ⟨v103, rfl, ho0, hb⟩; have n0_ := Aside0.mk (Kd.R_lower ho0 (below_size (qva0_))); have n1_ := Aside0.mk (blk_below (g := gb101) (o := .cells #[.slice A0_0 l0_0.length c0_0, .int .i64 a0_1] 24 (0, 0)) (qva3_) hb); have n2_ := Aside0.mk (below_step (qva0_) hb); clear BK101; clear HB; have HO104 := n0_; have BK101 := n1_; have HB := n2_; clear n0_ n1_ n2_; (try clear hb); (try clear ho0)))
  repeat (go_quiet (first | ((with_reducible refine gate_dst (N := 1) rfl ?_); refine box_event ?hg (N := 1) ?hd (cs := #[.slice A0_0 l0_0.length c0_0, .int .i64 a0_1]) (t := 24) ?hr ?_; (case hd => rfl); (case hg => rfl); (case hr => first | (go_simp; done) | (go_simp; rfl)); intro gb101 hg w14 hbox hb; have n0_ := Aside0.mk (below_step (qva1_) hb); have n1_ := Aside0.mk (hbox); have n2_ := Aside0.mk ((by rw [hg]; exact (below_size (qva1_)) : w.heap.size ≤ gb101)); have n3_ := Aside0.mk ((by rw [hg]; exact (below_size (qva1_)) : w.heap.size ≤ gb101)); clear HB; have HB := n0_; have BK101 := n1_; have GW101 := n2_; have GE101 := n3_; clear n0_ n1_ n2_ n3_; clear hb hbox hg; have hcz15_0 : w14.cell? ⟨gb101, 0, none⟩ = some (.slice A0_0 l0_0.length c0_0) := (blk_cell BK101.out 0).trans rfl; have hcz15_1 : w14.cell? ⟨gb101, 1, none⟩ = some (.int .i64 a0_1) := (blk_cell BK101.out 1).trans rfl; have hfz15_0 := blk_frozen BK101.out 0; have hfz15_1 := blk_frozen BK101.out 1) | (go_at_call 32; (with_reducible refine (grommetref12_Order.calls k _ _ l0_0 a0_1 t102 t105 _ ?side1 ?side2 (hG.below (qva2_)) A2.out).mono ?_); (case side1 => exact qva6_); (case side2 => exact HC0_0.out); rintro e w16 ⟨v103, rfl, ho0, hb⟩; have n0_ := Aside0.mk (Kd.R_lower ho0 (below_size (qva0_))); have n1_ := Aside0.mk (blk_below (g := gb101) (o := .cells #[.slice A0_0 l0_0.length c0_0, .int .i64 a0_1] 24 (0, 0)) (qva3_) hb); have n2_ := Aside0.mk (below_step (qva0_) hb); clear BK101; clear HB; have HO104 := n0_; have BK101 := n1_; have HB := n2_; clear n0_ n1_ n2_; (try clear hb); (try clear ho0))); try go_wp2_with (first | ((with_reducible refine gate_dst (N := 1) rfl ?_); refine box_event ?hg (N := 1) ?hd (cs := #[.slice A0_0 l0_0.length c0_0, .int .i64 a0_1]) (t := 24) ?hr ?_; (case hd => rfl); (case hg => rfl); (case hr => first | (go_simp; done) | (go_simp; rfl)); intro gb101 hg w14 hbox hb; have n0_ := Aside0.mk (below_step (qva1_) hb); have n1_ := Aside0.mk (hbox); have n2_ := Aside0.mk ((by rw [hg]; exact (below_size (qva1_)) : w.heap.size ≤ gb101)); have n3_ := Aside0.mk ((by rw [hg]; exact (below_size (qva1_)) : w.heap.size ≤ gb101)); clear HB; have HB := n0_; have BK101 := n1_; have GW101 := n2_; have GE101 := n3_; clear n0_ n1_ n2_ n3_; clear hb hbox hg; have hcz15_0 : w14.cell? ⟨gb101, 0, none⟩ = some (.slice A0_0 l0_0.length c0_0) := (blk_cell BK101.out 0).trans rfl; have hcz15_1 : w14.cell? ⟨gb101, 1, none⟩ = some (.int .i64 a0_1) := (blk_cell BK101.out 1).trans rfl; have hfz15_0 := blk_frozen BK101.out 0; have hfz15_1 := blk_frozen BK101.out 1) | (go_at_call 32; (with_reducible refine (grommetref12_Order.calls k _ _ l0_0 a0_1 t102 t105 _ ?side1 ?side2 (hG.below (qva2_)) A2.out).mono ?_); (case side1 => exact qva6_); (case side2 => exact HC0_0.out); rintro e w16 ⟨v103, rfl, ho0, hb⟩; have n0_ := Aside0.mk (Kd.R_lower ho0 (below_size (qva0_))); have n1_ := Aside0.mk (blk_below (g := gb101) (o := .cells #[.slice A0_0 l0_0.length c0_0, .int .i64 a0_1] 24 (0, 0)) (qva3_) hb); have n2_ := Aside0.mk (below_step (qva0_) hb); clear BK101; clear HB; have HO104 := n0_; have BK101 := n1_; have HB := n2_; clear n0_ n1_ n2_; (try clear hb); (try clear ho0))))
  go_ret2
  exact ⟨by first | rfl | (simp [errW_none, errW_some] <;> rfl) | (simp [*, errW_none, errW_some] <;> rfl), qva0_⟩
 rw [if_pos c3] at H
 have c3b0 : (t105 == 0) = true := beq_iff_eq.mpr c3
 have c3b1 : (t105 != 0) = false := bne_eq_false_iff_eq.mpr c3
 clear c3
 have H' := Aside0.mk H
 clear H
 go_enter Tryz.func14, Tryz.ntmps14
 go_wp2_with (first | ((with_reducible refine gate_dst (N := 1) rfl ?_); refine box_event ?hg (N := 1) ?hd (cs := #[.slice A0_0 l0_0.length c0_0, .int .i64 a0_1]) (t := 24) ?hr ?_; (case hd => rfl); (case hg => rfl); (case hr => first | (go_simp; done) | (go_simp; rfl)); intro gb101 hg w4 hbox hb; have n0_ := Aside0.mk (below_step (qva1_) hb); have n1_ := Aside0.mk (hbox); have n2_ := Aside0.mk ((by rw [hg]; exact (below_size (qva1_)) : w.heap.size ≤ gb101)); have n3_ := Aside0.mk ((by rw [hg]; exact (below_size (qva1_)) : w.heap.size ≤ gb101)); clear HB; have HB := n0_; have BK101 := n1_; have GW101 := n2_; have GE101 := n3_; clear n0_ n1_ n2_ n3_; clear hb hbox hg; have hcz5_0 : w4.cell? ⟨gb101, 0, none⟩ = some (.slice A0_0 l0_0.length c0_0) := (blk_cell BK101.out 0).trans rfl; have hcz5_1 : w4.cell? ⟨gb101, 1, none⟩ = some (.int .i64 a0_1) := (blk_cell BK101.out 1).trans rfl; have hfz5_0 := blk_frozen BK101.out 0; have hfz5_1 := blk_frozen BK101.out 1) | (go_at_call 32; (with_reducible refine (grommetref12_Order.calls k _ _ l0_0 a0_1 t102 t105 _ ?side1 ?side2 (hG.below (qva2_)) A2.out).mono ?_); (case side1 => exact qva6_); (case side2 => exact HC0_0.out); rintro e w6 ⟨v103, rfl, ho0, hb⟩; have n0_ := Aside0.mk (Kd.R_lower ho0 (below_size (qva0_))); have n1_ := Aside0.mk (blk_below (g := gb101) (o := .cells #[.slice A0_0 l0_0.length c0_0, .int .i64 a0_1] 24 (0, 0)) (qva3_) hb); have n2_ := Aside0.mk (below_step (qva0_) hb); clear BK101; clear HB; have HO104 := n0_; have BK101 := n1_; have HB := n2_; clear n0_ n1_ n2_; (try clear hb); (try clear ho0)))
 repeat (go_quiet (first | ((with_reducible refine gate_dst (N := 1) rfl ?_); refine box_event ?hg (N := 1) ?hd (cs := #[.slice A0_0 l0_0.length c0_0, .int .i64 a0_1]) (t := 24) ?hr ?_; (case hd => rfl); (case hg => rfl); (case hr => first | (go_simp; done) | (go_simp; rfl)); intro gb101 hg w4 hbox hb; have n0_ := Aside0.mk (below_step (qva1_) hb); have n1_ := Aside0.mk (hbox); have n2_ := Aside0.mk ((by rw [hg]; exact (below_size (qva1_)) : w.heap.size ≤ gb101)); have n3_ := Aside0.mk ((by rw [hg]; exact (below_size (qva1_)) : w.heap.size ≤ gb101)); clear HB; have HB := n0_; have BK101 := n1_; have GW101 := n2_; have GE101 := n3_; clear n0_ n1_ n2_ n3_; clear hb hbox hg; have hcz5_0 : w4.cell? ⟨gb101, 0, none⟩ = some (.slice A0_0 l0_0.length c0_0) := (blk_cell BK101.out 0).trans rfl; have hcz5_1 : w4.cell? ⟨gb101, 1, none⟩ = some (.int .i64 a0_1) := (blk_cell BK101.out 1).trans rfl; have hfz5_0 := blk_frozen BK101.out 0; have hfz5_1 := blk_frozen BK101.out 1) | (go_at_call 32; (with_reducible refine (grommetref12_Order.calls k _ _ l0_0 a0_1 t102 t105 _ ?side1 ?side2 (hG.below (qva2_)) A2.out).mono ?_); (case side1 => exact qva6_); (case side2 => exact HC0_0.out); rintro e w6 ⟨v103, rfl, ho0, hb⟩; have n0_ := Aside0.mk (Kd.R_lower ho0 (below_size (qva0_))); have n1_ := Aside0.mk (blk_below (g := gb101) (o := .cells #[.slice A0_0 l0_0.length c0_0, .int .i64 a0_1] 24 (0, 0)) (qva3_) hb); have n2_ := Aside0.mk (below_step (qva0_) hb); clear BK101; clear HB; have HO104 := n0_; have BK101 := n1_; have HB := n2_; clear n0_ n1_ n2_; (try clear hb); (try clear ho0))); try go_wp2_with (first | ((with_reducible refine gate_dst (N := 1) rfl ?_); refine box_event ?hg (N := 1) ?hd (cs := #[.slice A0_0 l0_0.length c0_0, .int .i64 a0_1]) (t := 24) ?hr ?_; (case hd => rfl); (case hg => rfl); (case hr => first | (go_simp; done) | (go_simp; rfl)); intro gb101 hg w4 hbox hb; have n0_ := Aside0.mk (below_step (qva1_) hb); have n1_ := Aside0.mk (hbox); have n2_ := Aside0.mk ((by rw [hg]; exact (below_size (qva1_)) : w.heap.size ≤ gb101)); have n3_ := Aside0.mk ((by rw [hg]; exact (below_size (qva1_)) : w.heap.size ≤ gb101)); clear HB; have HB := n0_; have BK101 := n1_; have GW101 := n2_; have GE101 := n3_; clear n0_ n1_ n2_ n3_; clear hb hbox hg; have hcz5_0 : w4.cell? ⟨gb101, 0, none⟩ = some (.slice A0_0 l0_0.length c0_0) := (blk_cell BK101.out 0).trans rfl; have hcz5_1 : w4.cell? ⟨gb101, 1, none⟩ = some (.int .i64 a0_1) := (blk_cell BK101.out 1).trans rfl; have hfz5_0 := blk_frozen BK101.out 0; have hfz5_1 := blk_frozen BK101.out 1) | (go_at_call 32; (with_reducible refine (grommetref12_Order.calls k _ _ l0_0 a0_1 t102 t105 _ ?side1 ?side2 (hG.below (qva2_)) A2.out).mono ?_); (case side1 => exact qva6_); (case side2 => exact HC0_0.out); rintro e w6 ⟨v103, rfl, ho0, hb⟩; have n0_ := Aside0.mk (Kd.R_lower ho0 (below_size (qva0_))); have n1_ := Aside0.mk (blk_below (g := gb101) (o := .cells #[.slice A0_0 l0_0.length c0_0, .int .i64 a0_1] 24 (0, 0)) (qva3_) hb); have n2_ := Aside0.mk (below_step (qva0_) hb); clear BK101; clear HB; have HO104 := n0_; have BK101 := n1_; have HB := n2_; clear n0_ n1_ n2_; (try clear hb); (try clear ho0))))
 go_loopg [6, 7] k (fun kq v6 v7 w' => ∃ (x6_1 : Int) (x7_1 : Int), v6 = .int .i64 x6_1 ∧ v7 = .int .i64 x7_1 ∧ Aside0 (grommetref14_Size.l0 kq t102 x6_1 x7_1 l0_0 a0_1 = some (r1, r2)) ∧ Aside0 (kq ≤ k) ∧ Aside0 (Kd.R (Kd.int .i64) 3 w' w.heap.size (fun _ => True) v103 t102) ∧ Aside0 (w'.heap[gb101]? = some (.cells #[(.slice A0_0 l0_0.length c0_0), .int .i64 a0_1] 24 (0, 0))) ∧ Aside0 (Below w.heap.size w w'))
 case atStart => exact ⟨(1), (0), (qva5_), (qva5_), H', ⟨Nat.le_refl _⟩, ⟨by (with_reducible repeat (first | apply Kd.R_alloc | apply Kd.R_drewN | apply Kd.R_drew)); exact HO104.out⟩, ⟨qva3_⟩, ⟨qva0_⟩⟩
 case round =>
  clear H'
  try clear c1
  try clear p2
  try clear c3
  try clear c3b0
  try clear c3b1
  try clear hcz5_0
  try clear hcz5_1
  try clear hfz5_0
  try clear hfz5_1
  obtain ⟨x6_1, x7_1, rfl, rfl, HA, HK1, HO_4, BK101, HB⟩ := hrel
  cases gk with
  | zero => exact absurd HA.out (by simp [grommetref14_Size.l0])
  | succ k1 =>
   have H := HA.out
   clear HA
   simp only [grommetref14_Size.l0] at H
   by_cases c7 : x7_1 < (t102.length : Int)
   rotate_left
   ·
    rw [if_neg c7] at H
    have c7b0 : decide (x7_1 < (t102.length : Int)) = false := decide_eq_false c7
    clear c7
    simp only [Option.some.injEq, Prod.mk.injEq] at H
    obtain ⟨rfl, rfl⟩ := H
    obtain ⟨Ao13, co13, eo13⟩ := Kd.R_slice HO_4.out
    subst eo13
    go_wp2
    repeat (go_quiet (fail); try go_wp2)
    go_ret2
    exact ⟨by first | rfl | (simp [errW_none, errW_some] <;> rfl) | (simp [*, errW_none, errW_some] <;> rfl), qva0_⟩
   rw [if_pos c7] at H
   have c7b0 : decide (x7_1 < (t102.length : Int)) = true := decide_eq_true c7
   clear c7
   by_cases c8 : 0 ≤ x7_1
   rotate_left
   ·
    rw [if_neg c8] at H
    exact absurd H (by simp)
   rw [if_pos c8] at H
   have c8b0 : decide (0 ≤ x7_1) = true := decide_eq_true c8
   clear c8
   by_cases c9 : 0 ≤ (rd t102 x7_1)
   rotate_left
   ·
    rw [if_neg c9] at H
    exact absurd H (by simp)
   rw [if_pos c9] at H
   have c9b0 : decide (0 ≤ (rd t102 x7_1)) = true := decide_eq_true c9
   clear c9
   by_cases c10 : (rd t102 x7_1) < (l0_0.length : Int)
   rotate_left
   ·
    rw [if_neg c10] at H
    exact absurd H (by simp)
   rw [if_pos c10] at H
   have c10b0 : decide ((rd t102 x7_1) < (l0_0.length : Int)) = true := decide_eq_true c10
   clear c10
   have H' := Aside0.mk H
   clear H
   obtain ⟨Ao11, co11, eo11⟩ := Kd.R_slice HO_4.out
   subst eo11
   have hcz12_0 : wr.cell? ⟨gb101, 0, none⟩ = some (.slice A0_0 l0_0.length c0_0) := (blk_cell BK101.out 0).trans rfl
   have hcz12_1 : wr.cell? ⟨gb101, 1, none⟩ = some (.int .i64 a0_1) := (blk_cell BK101.out 1).trans rfl
   have hfz12_0 := blk_frozen BK101.out 0
   have hfz12_1 := blk_frozen BK101.out 1
   have p106 : 0 ≤ (x7_1 : Int) := of_decide_eq_true (qva4_)
   have q106 : x7_1 < (t102.length : Int) := of_decide_eq_true (qva4_)
   obtain ⟨ad106, e106, hx106_0⟩ := Kd.at_int (Kd.R_reads' HO_4.out).2.2 x7_1 p106 q106
   cases e106
   replace p106 := eq_true p106
   replace q106 := eq_true q106
   have p107 : 0 ≤ ((rd t102 x7_1) : Int) := of_decide_eq_true (qva4_)
   have q107 : (rd t102 x7_1) < (l0_0.length : Int) := of_decide_eq_true (qva4_)
   obtain ⟨ad107, A107_2, c107_2, e107, hx107_0, hx107_1, hx107_2, hl107_2, hi107_2⟩ := at_T45 HR0_0.out (rd t102 x7_1) p107 q107
   have KX107_2 := Aside0.mk hx107_2
   cases e107
   replace hx107_0 := (HB.out.cell (World.block_lt_of_cell? w _ hx107_0)).trans hx107_0
   replace hx107_1 := (HB.out.cell (World.block_lt_of_cell? w _ hx107_1)).trans hx107_1
   replace hx107_2 := (HB.out.cell (World.block_lt_of_cell? w _ hx107_2)).trans hx107_2
   have HR107_2 := Aside0.mk hi107_2
   have HC107_2 := Aside0.mk hl107_2
   clear hi107_2 hl107_2
   replace p107 := eq_true p107
   replace q107 := eq_true q107
   go_wp2
   repeat (go_quiet (fail); try go_wp2)
   go_roundg k1
   case measure => have := HK1.out; omega
   case rel => exact ⟨(wrap64 (x6_1 + (((rd_T45 l0_0 (rd t102 x7_1)).f2).length : Int))), (wrap64 (x7_1 + 1)), (qva5_), (qva5_), H', ⟨by have := HK1.out; omega⟩, ⟨by (with_reducible repeat (first | apply Kd.R_alloc | apply Kd.R_drewN | apply Kd.R_drew)); exact HO_4.out⟩, ⟨qva3_⟩, ⟨qva0_⟩⟩
mutual
def grommetref09_Same.j0 : Nat → Bool → Int → ByteArray → ByteArray → List (S29) → Int → ByteArray → ByteArray → List (S29) → Option (Bool)
  | 0, _, _, _, _, _, _, _, _, _ => none
  | k + 1, x33, x102000, x102001, x102002, x102003, x103000, x103001, x103002, x103003 => if x33 = true then (some false) else (grommetref09_Same.l0 k 0 x102000 x102001 x102002 x102003 x103000 x103001 x103002 x103003)
def grommetref09_Same.l0 : Nat → Int → Int → ByteArray → ByteArray → List (S29) → Int → ByteArray → ByteArray → List (S29) → Option (Bool)
  | 0, _, _, _, _, _, _, _, _, _ => none
  | k + 1, x5, x102000, x102001, x102002, x102003, x103000, x103001, x103002, x103003 => if x5 < (x102003.length : Int) then (if 0 ≤ x5 then (if x5 < (x103003.length : Int) then ((grommetref09_Same.f k ((rd_T29 x102003 x5).f0) ((rd_T29 x102003 x5).f1) ((rd_T29 x102003 x5).f2) ((rd_T29 x102003 x5).f3) ((rd_T29 x103003 x5).f0) ((rd_T29 x103003 x5).f1) ((rd_T29 x103003 x5).f2) ((rd_T29 x103003 x5).f3)).bind fun t105 => (if t105 = true then (grommetref09_Same.l0 k (wrap64 (x5 + 1)) x102000 x102001 x102002 x102003 x103000 x103001 x103002 x103003) else (some false))) else (none)) else (none)) else (some true)
def grommetref09_Same.f : Nat → Int → ByteArray → ByteArray → List (S29) → Int → ByteArray → ByteArray → List (S29) → Option (Bool)
  | 0, _, _, _, _, _, _, _, _ => none
  | k + 1, a0_0, a0_1, a0_2, l0_3, a1_0, a1_1, a1_2, l1_3 => if a0_0 = a1_0 then (if a0_1.toList = a1_1.toList then (if a0_2.toList = a1_2.toList then (grommetref09_Same.j0 k ((l0_3.length : Int) != (l1_3.length : Int)) a0_0 a0_1 a0_2 l0_3 a1_0 a1_1 a1_2 l1_3) else (grommetref09_Same.j0 k true a0_0 a0_1 a0_2 l0_3 a1_0 a1_1 a1_2 l1_3)) else (grommetref09_Same.j0 k true a0_0 a0_1 a0_2 l0_3 a1_0 a1_1 a1_2 l1_3)) else (grommetref09_Same.j0 k true a0_0 a0_1 a0_2 l0_3 a1_0 a1_1 a1_2 l1_3)
end
def grommetref09_Same.T6 : Bool × List (List Nat × List Nat) := (true, [([], []), ([0], [0]), ([], []), ([1, 2], [1, 2]), ([3], [3]), ([], []), ([5], [5]), ([], []), ([6, 7], [6, 7]), ([8], [8]), ([4, 9], [4, 9]), ([10], [10])])
def grommetref09_Same.B6 : List Nat := [0, 1, 0, 7, 15, 0, 32, 0, 224, 480, 1023, 2047]
theorem grommetref09_Same.tab6 : rtab .any (opsOf Tryz.f15 6) = grommetref09_Same.T6 := by kernel_rfl
theorem grommetref09_Same.bits6 : waitsOk grommetref09_Same.T6.2 grommetref09_Same.B6 = true := by kernel_rfl
theorem qgb0_ {P : Prop} (h_ : P := by repeat (first | (with_reducible first | exact HB.out | apply below_alloc | apply pw_below_drewN | apply below_drew1 | refine below_set ?_ GE101.out | refine below_set ?_ GE102.out) | exact HB.out)) : P := h_
theorem qgb1_ {P : Prop} (h_ : P := by (with_reducible repeat (first | refine blk_drewN ?_ _ | refine blk_drew ?_ | refine blk_alloc ?_ _)); exact BK101.out) : P := h_
theorem qgb2_ {P : Prop} (h_ : P := by (with_reducible repeat (first | refine blk_drewN ?_ _ | refine blk_drew ?_ | refine blk_alloc ?_ _)); exact BK102.out) : P := h_
theorem qgb3_ {P : Prop} (h_ : P := by repeat (first | (with_reducible first | exact HB.out | apply below_alloc | apply pw_below_drewN | apply below_drew1 | refine below_set ?_ GE101.out) | exact HB.out)) : P := h_
theorem qgb4_ {P : Prop} (h_ : P := by first | (with_reducible assumption) | assumption) : P := h_
theorem qgb5_ {P : Prop} (h_ : P := by first | ((repeat (first | (with_reducible first | exact HB.out | apply below_alloc | apply pw_below_drewN | apply below_drew1 | (refine Glob.below_set ?_ (by assumption) _ _ _)) | exact HB.out)); done) | (refine Drawn0.below ?_; repeat (first | exact Drawn0.refl _ | assumption | apply Drawn0.step))) : P := h_
theorem qgb6_ {P : Prop} (h_ : P := by repeat (first | (with_reducible first | exact HB.out | apply below_alloc | apply pw_below_drewN | apply below_drew1) | exact HB.out)) : P := h_
theorem qgb7_ {P : Prop} (h_ : P := by first | rfl | (simp; done) | (simp [*]; done)) : P := h_
theorem qgb8_ {P : Prop} (h_ : P := by first | rfl | (simp [errW_none, errW_some] <;> rfl) | (simp [*, errW_none, errW_some] <;> rfl)) : P := h_
theorem qgb9_ {P : Prop} (h_ : P := by (try simp only [List.map_toArray, List.map_cons, List.map_nil]); first | done | rfl | (simp only [List.length_drop, List.length_take]; rfl)) : P := h_
theorem qgb10_ {P : Prop} (h_ : P := by intro w'; go_simp; with_reducible rfl) : P := h_
theorem qgb11_ {P : Prop} (h_ : P := by simp only [Act.put, List.setIfInBounds_toArray, List.set_cons_zero, List.set_cons_succ, i64_w, i32_w]; rfl) : P := h_
theorem qgb12_ {P : Prop} (h_ : P := by rintro w' ⟨s0, s1, s2, s3, s4, s5, s6, s7, s8, s9, s10, s11, s12, s13, s14, s15⟩; go_simp; with_reducible rfl) : P := h_
set_option maxHeartbeats 8000000 in
set_option maxRecDepth 100000 in
theorem grommetref09_Same.calls (k : Nat) : ∀ (a0_0 : Int) (a0_1 : ByteArray) (a0_2 : ByteArray) (A0_3 : Option Addr) (c0_3 : Nat) (l0_3 : List (S29)) (a1_0 : Int) (a1_1 : ByteArray) (a1_2 : ByteArray) (A1_3 : Option Addr) (c1_3 : Nat) (l1_3 : List (S29)) (r : Bool) (w : World) (hr0_3 : Kd.C k29 w A0_3 l0_3.length l0_3) (hc0_3 : l0_3.length ≤ c0_3) (hr1_3 : Kd.C k29 w A1_3 l1_3.length l1_3) (hc1_3 : l1_3.length ≤ c1_3) (hG : Glob.G w) (h : grommetref09_Same.f k a0_0 a0_1 a0_2 l0_3 a1_0 a1_1 a1_2 l1_3 = some r),
  Calls Tryz.prog 15 #[.agg #[.int .i64 a0_0, .string a0_1, .string a0_2, .slice A0_3 l0_3.length c0_3], .agg #[.int .i64 a1_0, .string a1_1, .string a1_2, .slice A1_3 l1_3.length c1_3]] w fun e w' => e = .returned (.bool r) ∧ Below w.heap.size w w' := by
 induction k using Nat.strongRecOn with
 | _ k ih =>
 intro a0_0 a0_1 a0_2 A0_3 c0_3 l0_3 a1_0 a1_1 a1_2 A1_3 c1_3 l1_3 r w hr0_3 hc0_3 hr1_3 hc1_3 hG h
 cases k with
 | zero => exact absurd h (by simp [grommetref09_Same.f])
 | succ k =>
 simp only [grommetref09_Same.f] at h
 have hu29 := Tryz.underlying29
 have HR0_3 := Aside0.mk hr0_3
 have HC0_3 := Aside0.mk hc0_3
 clear hr0_3 hc0_3
 have HR1_3 := Aside0.mk hr1_3
 have HC1_3 := Aside0.mk hc1_3
 clear hr1_3 hc1_3
 have HB := Aside0.mk (Below.refl w.heap.size w)
 have H : (if a0_0 = a1_0 then (if a0_1.toList = a1_1.toList then (if a0_2.toList = a1_2.toList then (grommetref09_Same.j0 k ((l0_3.length : Int) != (l1_3.length : Int)) a0_0 a0_1 a0_2 l0_3 a1_0 a1_1 a1_2 l1_3) else (grommetref09_Same.j0 k true a0_0 a0_1 a0_2 l0_3 a1_0 a1_1 a1_2 l1_3)) else (grommetref09_Same.j0 k true a0_0 a0_1 a0_2 l0_3 a1_0 a1_1 a1_2 l1_3)) else (grommetref09_Same.j0 k true a0_0 a0_1 a0_2 l0_3 a1_0 a1_1 a1_2 l1_3)) = some r := h
 clear h
 have HC3 := Aside0.mk H
 clear H
 go_enter Tryz.func15, Tryz.ntmps15
 go_upto_region 1 with (first | ((with_reducible refine gate_dst (N := 2) rfl ?_); (try (refine gate_guard (by rfl) ?_; dsimp only)); refine box_event ?hg (N := 2) ?hd (cs := #[.int .i64 a0_0, .string a0_1, .string a0_2, .slice A0_3 l0_3.length c0_3]) (t := 29) ?hr ?_; (case hd => rfl); (case hg => rfl); (case hr => first | (go_simp; done) | (go_simp; rfl)); intro gb101 hg w4 hbox hb; have n0_ := Aside0.mk (below_step (qgb6_) hb); have n1_ := Aside0.mk (hbox); have n2_ := Aside0.mk ((by rw [hg]; exact (below_size (qgb6_)) : w.heap.size ≤ gb101)); have n3_ := Aside0.mk ((by rw [hg]; exact (below_size (qgb6_)) : w.heap.size ≤ gb101)); clear HB; have HB := n0_; have BK101 := n1_; have GW101 := n2_; have GE101 := n3_; clear n0_ n1_ n2_ n3_; clear hb hbox hg) | ((with_reducible refine gate_dst (N := 3) rfl ?_); (try (refine gate_guard (by rfl) ?_; dsimp only)); refine box_event ?hg (N := 3) ?hd (cs := #[.int .i64 a1_0, .string a1_1, .string a1_2, .slice A1_3 l1_3.length c1_3]) (t := 29) ?hr ?_; (case hd => rfl); (case hg => rfl); (case hr => first | (go_simp; done) | (go_simp; rfl)); intro gb102 hg w5 hbox hb; have n0_ := Aside0.mk (blk_below (g := gb101) (o := .cells #[.int .i64 a0_0, .string a0_1, .string a0_2, .slice A0_3 l0_3.length c0_3] 29 (0, 0)) (qgb1_) hb); have n1_ := Aside0.mk (below_step (qgb3_) hb); have n2_ := Aside0.mk (hbox); have n3_ := Aside0.mk ((by rw [hg]; exact (below_size (qgb3_)) : w.heap.size ≤ gb102)); have n4_ := Aside0.mk ((by rw [hg]; exact (below_size (qgb3_)) : w.heap.size ≤ gb102)); have n5_ := Aside0.mk ((by rw [hg]; exact Nat.ne_of_lt (blk_lt (g := gb101) (o := .cells #[.int .i64 a0_0, .string a0_1, .string a0_2, .slice A0_3 l0_3.length c0_3] 29 (0, 0)) (qgb1_)) : gb101 ≠ gb102)); have n6_ := Aside0.mk ((by rw [hg]; exact Nat.ne_of_gt (blk_lt (g := gb101) (o := .cells #[.int .i64 a0_0, .string a0_1, .string a0_2, .slice A0_3 l0_3.length c0_3] 29 (0, 0)) (qgb1_)) : gb102 ≠ gb101)); clear BK101; clear HB; have BK101 := n0_; have HB := n1_; have BK102 := n2_; have GW102 := n3_; have GE102 := n4_; have NB101_102 := n5_; have NB102_101 := n6_; clear n0_ n1_ n2_ n3_ n4_ n5_ n6_; clear hb hbox hg))
 (try simp only [Act.put, List.setIfInBounds_toArray, List.set_cons_zero, List.set_cons_succ])
 go_cut [33] (fun v33 wc => ∃ (kq : Nat) (x33_2 : Bool), v33 = .bool x33_2 ∧ Aside0 (grommetref09_Same.j0 kq x33_2 a0_0 a0_1 a0_2 l0_3 a1_0 a1_1 a1_2 l1_3 = some r) ∧ Aside0 (kq ≤ k) ∧ Aside0 (wc.heap[gb101]? = some (.cells #[.int .i64 a0_0, .string a0_1, .string a0_2, (.slice A0_3 l0_3.length c0_3)] 29 (0, 0))) ∧ Aside0 (wc.heap[gb102]? = some (.cells #[.int .i64 a1_0, .string a1_1, .string a1_2, (.slice A1_3 l1_3.length c1_3)] 29 (0, 0))) ∧ Aside0 (Below w.heap.size w wc))
 case first =>
  have H := HC3.out
  clear HC3
  by_cases c6 : a0_0 = a1_0
  rotate_left
  ·
   rw [if_neg c6] at H
   have c6b0 : (a0_0 == a1_0) = false := beq_eq_false_iff_ne.mpr c6
   have c6b1 : (a0_0 != a1_0) = true := bne_iff_ne.mpr c6
   (first | rw [c6b0] | (simp only [i64_w, i32_w]; rw [c6b0]) | skip)
   have H' := Aside0.mk H
   clear H
   have hnb18 := NB101_102.out
   have hnc18 := NB102_101.out
   have hcz19_0 : w5.cell? ⟨gb101, 0, none⟩ = some (.int .i64 a0_0) := (blk_cell BK101.out 0).trans rfl
   have hcz19_1 : w5.cell? ⟨gb101, 1, none⟩ = some (.string a0_1) := (blk_cell BK101.out 1).trans rfl
   have hcz19_2 : w5.cell? ⟨gb101, 2, none⟩ = some (.string a0_2) := (blk_cell BK101.out 2).trans rfl
   have hcz19_3 : w5.cell? ⟨gb101, 3, none⟩ = some (.slice A0_3 l0_3.length c0_3) := (blk_cell BK101.out 3).trans rfl
   have hfz19_0 := blk_frozen BK101.out 0
   have hfz19_1 := blk_frozen BK101.out 1
   have hfz19_2 := blk_frozen BK101.out 2
   have hfz19_3 := blk_frozen BK101.out 3
   have hcz20_0 : w5.cell? ⟨gb102, 0, none⟩ = some (.int .i64 a1_0) := (blk_cell BK102.out 0).trans rfl
   have hcz20_1 : w5.cell? ⟨gb102, 1, none⟩ = some (.string a1_1) := (blk_cell BK102.out 1).trans rfl
   have hcz20_2 : w5.cell? ⟨gb102, 2, none⟩ = some (.string a1_2) := (blk_cell BK102.out 2).trans rfl
   have hcz20_3 : w5.cell? ⟨gb102, 3, none⟩ = some (.slice A1_3 l1_3.length c1_3) := (blk_cell BK102.out 3).trans rfl
   have hfz20_0 := blk_frozen BK102.out 0
   have hfz20_1 := blk_frozen BK102.out 1
   have hfz20_2 := blk_frozen BK102.out 2
   have hfz20_3 := blk_frozen BK102.out 3
   go_wp2
   go_meet
   case rel => exact ⟨_, (true), (qgb7_), H', ⟨by first | omega | exact Nat.le_refl _⟩, ⟨qgb1_⟩, ⟨qgb2_⟩, ⟨qgb0_⟩⟩
  rw [if_pos c6] at H
  have c6b0 : (a0_0 == a1_0) = true := beq_iff_eq.mpr c6
  have c6b1 : (a0_0 != a1_0) = false := bne_eq_false_iff_eq.mpr c6
  clear c6
  (first | rw [c6b0] | (simp only [i64_w, i32_w]; rw [c6b0]) | skip)
  by_cases c7 : a0_1.toList = a1_1.toList
  rotate_left
  ·
   rw [if_neg c7] at H
   have c7b0 : (a0_1.toList == a1_1.toList) = false := beq_eq_false_iff_ne.mpr c7
   have c7b1 : (a0_1.toList != a1_1.toList) = true := bne_iff_ne.mpr c7
   have H' := Aside0.mk H
   clear H
   have hnb15 := NB101_102.out
   have hnc15 := NB102_101.out
   have hcz16_0 : w5.cell? ⟨gb101, 0, none⟩ = some (.int .i64 a0_0) := (blk_cell BK101.out 0).trans rfl
   have hcz16_1 : w5.cell? ⟨gb101, 1, none⟩ = some (.string a0_1) := (blk_cell BK101.out 1).trans rfl
   have hcz16_2 : w5.cell? ⟨gb101, 2, none⟩ = some (.string a0_2) := (blk_cell BK101.out 2).trans rfl
   have hcz16_3 : w5.cell? ⟨gb101, 3, none⟩ = some (.slice A0_3 l0_3.length c0_3) := (blk_cell BK101.out 3).trans rfl
   have hfz16_0 := blk_frozen BK101.out 0
   have hfz16_1 := blk_frozen BK101.out 1
   have hfz16_2 := blk_frozen BK101.out 2
   have hfz16_3 := blk_frozen BK101.out 3
   have hcz17_0 : w5.cell? ⟨gb102, 0, none⟩ = some (.int .i64 a1_0) := (blk_cell BK102.out 0).trans rfl
   have hcz17_1 : w5.cell? ⟨gb102, 1, none⟩ = some (.string a1_1) := (blk_cell BK102.out 1).trans rfl
   have hcz17_2 : w5.cell? ⟨gb102, 2, none⟩ = some (.string a1_2) := (blk_cell BK102.out 2).trans rfl
   have hcz17_3 : w5.cell? ⟨gb102, 3, none⟩ = some (.slice A1_3 l1_3.length c1_3) := (blk_cell BK102.out 3).trans rfl
   have hfz17_0 := blk_frozen BK102.out 0
   have hfz17_1 := blk_frozen BK102.out 1
   have hfz17_2 := blk_frozen BK102.out 2
   have hfz17_3 := blk_frozen BK102.out 3
   go_wp2
   go_meet
   case rel => exact ⟨_, (true), (qgb7_), H', ⟨by first | omega | exact Nat.le_refl _⟩, ⟨qgb1_⟩, ⟨qgb2_⟩, ⟨qgb0_⟩⟩
  rw [if_pos c7] at H
  have c7b0 : (a0_1.toList == a1_1.toList) = true := beq_iff_eq.mpr c7
  have c7b1 : (a0_1.toList != a1_1.toList) = false := bne_eq_false_iff_eq.mpr c7
  clear c7
  by_cases c8 : a0_2.toList = a1_2.toList
  rotate_left
  ·
   rw [if_neg c8] at H
   have c8b0 : (a0_2.toList == a1_2.toList) = false := beq_eq_false_iff_ne.mpr c8
   have c8b1 : (a0_2.toList != a1_2.toList) = true := bne_iff_ne.mpr c8
   have H' := Aside0.mk H
   clear H
   have hnb12 := NB101_102.out
   have hnc12 := NB102_101.out
   have hcz13_0 : w5.cell? ⟨gb101, 0, none⟩ = some (.int .i64 a0_0) := (blk_cell BK101.out 0).trans rfl
   have hcz13_1 : w5.cell? ⟨gb101, 1, none⟩ = some (.string a0_1) := (blk_cell BK101.out 1).trans rfl
   have hcz13_2 : w5.cell? ⟨gb101, 2, none⟩ = some (.string a0_2) := (blk_cell BK101.out 2).trans rfl
   have hcz13_3 : w5.cell? ⟨gb101, 3, none⟩ = some (.slice A0_3 l0_3.length c0_3) := (blk_cell BK101.out 3).trans rfl
   have hfz13_0 := blk_frozen BK101.out 0
   have hfz13_1 := blk_frozen BK101.out 1
   have hfz13_2 := blk_frozen BK101.out 2
   have hfz13_3 := blk_frozen BK101.out 3
   have hcz14_0 : w5.cell? ⟨gb102, 0, none⟩ = some (.int .i64 a1_0) := (blk_cell BK102.out 0).trans rfl
   have hcz14_1 : w5.cell? ⟨gb102, 1, none⟩ = some (.string a1_1) := (blk_cell BK102.out 1).trans rfl
   have hcz14_2 : w5.cell? ⟨gb102, 2, none⟩ = some (.string a1_2) := (blk_cell BK102.out 2).trans rfl
   have hcz14_3 : w5.cell? ⟨gb102, 3, none⟩ = some (.slice A1_3 l1_3.length c1_3) := (blk_cell BK102.out 3).trans rfl
   have hfz14_0 := blk_frozen BK102.out 0
   have hfz14_1 := blk_frozen BK102.out 1
   have hfz14_2 := blk_frozen BK102.out 2
   have hfz14_3 := blk_frozen BK102.out 3
   go_wp2
   go_meet
   case rel => exact ⟨_, (true), (qgb7_), H', ⟨by first | omega | exact Nat.le_refl _⟩, ⟨qgb1_⟩, ⟨qgb2_⟩, ⟨qgb0_⟩⟩
  rw [if_pos c8] at H
  have c8b0 : (a0_2.toList == a1_2.toList) = true := beq_iff_eq.mpr c8
  have c8b1 : (a0_2.toList != a1_2.toList) = false := bne_eq_false_iff_eq.mpr c8
  clear c8
  have H' := Aside0.mk H
  clear H
  have hnb9 := NB101_102.out
  have hnc9 := NB102_101.out
  have hcz10_0 : w5.cell? ⟨gb101, 0, none⟩ = some (.int .i64 a0_0) := (blk_cell BK101.out 0).trans rfl
  have hcz10_1 : w5.cell? ⟨gb101, 1, none⟩ = some (.string a0_1) := (blk_cell BK101.out 1).trans rfl
  have hcz10_2 : w5.cell? ⟨gb101, 2, none⟩ = some (.string a0_2) := (blk_cell BK101.out 2).trans rfl
  have hcz10_3 : w5.cell? ⟨gb101, 3, none⟩ = some (.slice A0_3 l0_3.length c0_3) := (blk_cell BK101.out 3).trans rfl
  have hfz10_0 := blk_frozen BK101.out 0
  have hfz10_1 := blk_frozen BK101.out 1
  have hfz10_2 := blk_frozen BK101.out 2
  have hfz10_3 := blk_frozen BK101.out 3
  have hcz11_0 : w5.cell? ⟨gb102, 0, none⟩ = some (.int .i64 a1_0) := (blk_cell BK102.out 0).trans rfl
  have hcz11_1 : w5.cell? ⟨gb102, 1, none⟩ = some (.string a1_1) := (blk_cell BK102.out 1).trans rfl
  have hcz11_2 : w5.cell? ⟨gb102, 2, none⟩ = some (.string a1_2) := (blk_cell BK102.out 2).trans rfl
  have hcz11_3 : w5.cell? ⟨gb102, 3, none⟩ = some (.slice A1_3 l1_3.length c1_3) := (blk_cell BK102.out 3).trans rfl
  have hfz11_0 := blk_frozen BK102.out 0
  have hfz11_1 := blk_frozen BK102.out 1
  have hfz11_2 := blk_frozen BK102.out 2
  have hfz11_3 := blk_frozen BK102.out 3
  go_wp2
  go_meet
  case rel => exact ⟨_, (((l0_3.length : Int) != (l1_3.length : Int))), (qgb7_), H', ⟨by first | omega | exact Nat.le_refl _⟩, ⟨qgb1_⟩, ⟨qgb2_⟩, ⟨qgb0_⟩⟩
 case rest =>
  clear HC3
  try clear c1
  try clear p2
  try clear c6
  try clear c6b0
  try clear c6b1
  try clear c7
  try clear c7b0
  try clear c7b1
  try clear c8
  try clear c8b0
  try clear c8b1
  try clear c9
  try clear c12
  try clear c15
  try clear c18
  try clear hcz10_0
  try clear hcz10_1
  try clear hcz10_2
  try clear hcz10_3
  try clear hcz11_0
  try clear hcz11_1
  try clear hcz11_2
  try clear hcz11_3
  try clear hcz13_0
  try clear hcz13_1
  try clear hcz13_2
  try clear hcz13_3
  try clear hcz14_0
  try clear hcz14_1
  try clear hcz14_2
  try clear hcz14_3
  try clear hcz16_0
  try clear hcz16_1
  try clear hcz16_2
  try clear hcz16_3
  try clear hcz17_0
  try clear hcz17_1
  try clear hcz17_2
  try clear hcz17_3
  try clear hcz19_0
  try clear hcz19_1
  try clear hcz19_2
  try clear hcz19_3
  try clear hcz20_0
  try clear hcz20_1
  try clear hcz20_2
  try clear hcz20_3
  try clear hfz10_0
  try clear hfz10_1
  try clear hfz10_2
  try clear hfz10_3
  try clear hfz11_0
  try clear hfz11_1
  try clear hfz11_2
  try clear hfz11_3
  try clear hfz13_0
  try clear hfz13_1
  try clear hfz13_2
  try clear hfz13_3
  try clear hfz14_0
  try clear hfz14_1
  try clear hfz14_2
  try clear hfz14_3
  try clear hfz16_0
  try clear hfz16_1
  try clear hfz16_2
  try clear hfz16_3
  try clear hfz17_0
  try clear hfz17_1
  try clear hfz17_2
  try clear hfz17_3
  try clear hfz19_0
  try clear hfz19_1
  try clear hfz19_2
  try clear hfz19_3
  try clear hfz20_0
  try clear hfz20_1
  try clear hfz20_2
  try clear hfz20_3
  obtain ⟨kq, x33_2, rfl, HA, HJ2, BK101, BK102, HB⟩ := hcut
  cases kq with
  | zero => exact absurd HA.out (by simp [grommetref09_Same.j0])
  | succ kj2 =>
   have H := HA.out
   clear HA
   simp only [grommetref09_Same.j0] at H
   by_cases c21 : x33_2 = true
   ·
    subst c21
    have H1 : (some false) = some r := by rw [if_pos rfl] at H; exact H
    clear H
    have H := H1
    clear H1
    obtain rfl := Option.some.inj H
    go_wp2
    go_ret
    exact ⟨qgb8_, qgb0_⟩
   replace c21 := Bool.eq_false_iff.mpr c21
   subst c21
   have H1 : (grommetref09_Same.l0 kj2 0 a0_0 a0_1 a0_2 l0_3 a1_0 a1_1 a1_2 l1_3) = some r := by rw [if_neg (show ¬ (false = true) by decide)] at H; exact H
   clear H
   have H := H1
   clear H1
   have H' := Aside0.mk H
   clear H
   go_wp2
   go_loopg [5] kj2 (fun kq v5 w' => ∃ (x5_2 : Int), v5 = .int .i64 x5_2 ∧ Aside0 (grommetref09_Same.l0 kq x5_2 a0_0 a0_1 a0_2 l0_3 a1_0 a1_1 a1_2 l1_3 = some r) ∧ Aside0 (kq ≤ kj2) ∧ Aside0 (w'.heap[gb101]? = some (.cells #[.int .i64 a0_0, .string a0_1, .string a0_2, (.slice A0_3 l0_3.length c0_3)] 29 (0, 0))) ∧ Aside0 (w'.heap[gb102]? = some (.cells #[.int .i64 a1_0, .string a1_1, .string a1_2, (.slice A1_3 l1_3.length c1_3)] 29 (0, 0))) ∧ Aside0 (Below w.heap.size w w'))
   case atStart => exact ⟨(0), (qgb7_), H', ⟨Nat.le_refl _⟩, ⟨qgb1_⟩, ⟨qgb2_⟩, ⟨qgb0_⟩⟩
   case round =>
    clear H'
    try clear c1
    try clear c2
    try clear p2
    try clear c6
    try clear c6b0
    try clear c6b1
    try clear c7
    try clear c7b0
    try clear c7b1
    try clear c8
    try clear c8b0
    try clear c8b1
    try clear c9
    try clear c12
    try clear c15
    try clear c18
    try clear c21
    try clear hcz10_0
    try clear hcz10_1
    try clear hcz10_2
    try clear hcz10_3
    try clear hcz11_0
    try clear hcz11_1
    try clear hcz11_2
    try clear hcz11_3
    try clear hcz13_0
    try clear hcz13_1
    try clear hcz13_2
    try clear hcz13_3
    try clear hcz14_0
    try clear hcz14_1
    try clear hcz14_2
    try clear hcz14_3
    try clear hcz16_0
    try clear hcz16_1
    try clear hcz16_2
    try clear hcz16_3
    try clear hcz17_0
    try clear hcz17_1
    try clear hcz17_2
    try clear hcz17_3
    try clear hcz19_0
    try clear hcz19_1
    try clear hcz19_2
    try clear hcz19_3
    try clear hcz20_0
    try clear hcz20_1
    try clear hcz20_2
    try clear hcz20_3
    try clear hfz10_0
    try clear hfz10_1
    try clear hfz10_2
    try clear hfz10_3
    try clear hfz11_0
    try clear hfz11_1
    try clear hfz11_2
    try clear hfz11_3
    try clear hfz13_0
    try clear hfz13_1
    try clear hfz13_2
    try clear hfz13_3
    try clear hfz14_0
    try clear hfz14_1
    try clear hfz14_2
    try clear hfz14_3
    try clear hfz16_0
    try clear hfz16_1
    try clear hfz16_2
    try clear hfz16_3
    try clear hfz17_0
    try clear hfz17_1
    try clear hfz17_2
    try clear hfz17_3
    try clear hfz19_0
    try clear hfz19_1
    try clear hfz19_2
    try clear hfz19_3
    try clear hfz20_0
    try clear hfz20_1
    try clear hfz20_2
    try clear hfz20_3
    try clear p2
    obtain ⟨x5_2, rfl, HA, HK2, BK101, BK102, HB⟩ := hrel
    cases gk with
    | zero => exact absurd HA.out (by simp [grommetref09_Same.l0])
    | succ k2 =>
     have H := HA.out
     clear HA
     simp only [grommetref09_Same.l0] at H
     by_cases c22 : x5_2 < (l0_3.length : Int)
     rotate_left
     ·
      rw [if_neg c22] at H
      have c22b0 : decide (x5_2 < (l0_3.length : Int)) = false := decide_eq_false c22
      clear c22
      obtain rfl := Option.some.inj H
      have hnb35 := NB101_102.out
      have hnc35 := NB102_101.out
      have hcz36_0 : wr.cell? ⟨gb101, 0, none⟩ = some (.int .i64 a0_0) := (blk_cell BK101.out 0).trans rfl
      have hcz36_1 : wr.cell? ⟨gb101, 1, none⟩ = some (.string a0_1) := (blk_cell BK101.out 1).trans rfl
      have hcz36_2 : wr.cell? ⟨gb101, 2, none⟩ = some (.string a0_2) := (blk_cell BK101.out 2).trans rfl
      have hcz36_3 : wr.cell? ⟨gb101, 3, none⟩ = some (.slice A0_3 l0_3.length c0_3) := (blk_cell BK101.out 3).trans rfl
      have hfz36_0 := blk_frozen BK101.out 0
      have hfz36_1 := blk_frozen BK101.out 1
      have hfz36_2 := blk_frozen BK101.out 2
      have hfz36_3 := blk_frozen BK101.out 3
      go_wp2
      go_ret
      exact ⟨qgb8_, qgb0_⟩
     rw [if_pos c22] at H
     have c22b0 : decide (x5_2 < (l0_3.length : Int)) = true := decide_eq_true c22
     clear c22
     by_cases c23 : 0 ≤ x5_2
     rotate_left
     ·
      rw [if_neg c23] at H
      exact absurd H (by simp)
     rw [if_pos c23] at H
     have c23b0 : decide (0 ≤ x5_2) = true := decide_eq_true c23
     clear c23
     by_cases c24 : x5_2 < (l1_3.length : Int)
     rotate_left
     ·
      rw [if_neg c24] at H
      exact absurd H (by simp)
     rw [if_pos c24] at H
     have c24b0 : decide (x5_2 < (l1_3.length : Int)) = true := decide_eq_true c24
     clear c24
     replace H := Option.bind_eq_some_iff.mp H
     obtain ⟨t105, A250, H⟩ := H
     replace H : (if t105 = true then (grommetref09_Same.l0 k2 (wrap64 (x5_2 + 1)) a0_0 a0_1 a0_2 l0_3 a1_0 a1_1 a1_2 l1_3) else (some false)) = some r := H
     have A25 := Aside0.mk A250
     clear A250
     by_cases c26 : t105 = true
     rotate_left
     ·
      replace c26 := Bool.eq_false_iff.mpr c26
      subst c26
      have H1 : (some false) = some r := by rw [if_neg (show ¬ (false = true) by decide)] at H; exact H
      clear H
      have H := H1
      clear H1
      obtain rfl := Option.some.inj H
      have hnb31 := NB101_102.out
      have hnc31 := NB102_101.out
      have hcz32_0 : wr.cell? ⟨gb101, 0, none⟩ = some (.int .i64 a0_0) := (blk_cell BK101.out 0).trans rfl
      have hcz32_1 : wr.cell? ⟨gb101, 1, none⟩ = some (.string a0_1) := (blk_cell BK101.out 1).trans rfl
      have hcz32_2 : wr.cell? ⟨gb101, 2, none⟩ = some (.string a0_2) := (blk_cell BK101.out 2).trans rfl
      have hcz32_3 : wr.cell? ⟨gb101, 3, none⟩ = some (.slice A0_3 l0_3.length c0_3) := (blk_cell BK101.out 3).trans rfl
      have hfz32_0 := blk_frozen BK101.out 0
      have hfz32_1 := blk_frozen BK101.out 1
      have hfz32_2 := blk_frozen BK101.out 2
      have hfz32_3 := blk_frozen BK101.out 3
      try go_wp2
      have n0_ := Aside0.mk (blk_drew BK101.out)
      have n1_ := Aside0.mk (blk_drew BK102.out)
      have n2_ := Aside0.mk (below_drew1 HB.out)
      clear BK101
      clear BK102
      clear HB
      have BK101 := n0_
      have BK102 := n1_
      have HB := n2_
      clear n0_ n1_ n2_
      have p103 : 0 ≤ (x5_2 : Int) := of_decide_eq_true (qgb4_)
      have q103 : x5_2 < (l0_3.length : Int) := of_decide_eq_true (qgb4_)
      obtain ⟨ad103, A103_3, c103_3, e103, hx103_0, hx103_1, hx103_2, hx103_3, hl103_3, hi103_3⟩ := at_T29 HR0_3.out x5_2 p103 q103
      have KX103_3 := Aside0.mk hx103_3
      have hw103_3 := hx103_3
      have hw103_2 := hx103_2
      have hw103_1 := hx103_1
      have hw103_0 := hx103_0
      cases e103
      replace hx103_0 := (HB.out.cell (World.block_lt_of_cell? w _ hx103_0)).trans hx103_0
      replace hx103_1 := (HB.out.cell (World.block_lt_of_cell? w _ hx103_1)).trans hx103_1
      replace hx103_2 := (HB.out.cell (World.block_lt_of_cell? w _ hx103_2)).trans hx103_2
      replace hx103_3 := (HB.out.cell (World.block_lt_of_cell? w _ hx103_3)).trans hx103_3
      have HR103_3 := Aside0.mk hi103_3
      have HC103_3 := Aside0.mk hl103_3
      clear hi103_3 hl103_3
      replace p103 := eq_true p103
      replace q103 := eq_true q103
      have p104 : 0 ≤ (x5_2 : Int) := of_decide_eq_true (qgb4_)
      have q104 : x5_2 < (l1_3.length : Int) := of_decide_eq_true (qgb4_)
      obtain ⟨ad104, A104_3, c104_3, e104, hx104_0, hx104_1, hx104_2, hx104_3, hl104_3, hi104_3⟩ := at_T29 HR1_3.out x5_2 p104 q104
      have KX104_3 := Aside0.mk hx104_3
      have hw104_3 := hx104_3
      have hw104_2 := hx104_2
      have hw104_1 := hx104_1
      have hw104_0 := hx104_0
      cases e104
      replace hx104_0 := (HB.out.cell (World.block_lt_of_cell? w _ hx104_0)).trans hx104_0
      replace hx104_1 := (HB.out.cell (World.block_lt_of_cell? w _ hx104_1)).trans hx104_1
      replace hx104_2 := (HB.out.cell (World.block_lt_of_cell? w _ hx104_2)).trans hx104_2
      replace hx104_3 := (HB.out.cell (World.block_lt_of_cell? w _ hx104_3)).trans hx104_3
      have HR104_3 := Aside0.mk hi104_3
      have HC104_3 := Aside0.mk hl104_3
      clear hi104_3 hl104_3
      replace p104 := eq_true p104
      replace q104 := eq_true q104
      refine start_ (n := 12) (S := fun w' => w'.cell? ⟨gb101, 0, none⟩ = some (.int .i64 a0_0) ∧ w'.cell? ⟨gb101, 1, none⟩ = some (.string a0_1) ∧ w'.cell? ⟨gb101, 2, none⟩ = some (.string a0_2) ∧ w'.cell? ⟨gb101, 3, none⟩ = some (.slice (some ad103) l0_3.length c0_3) ∧ w'.cell? ⟨gb102, 0, none⟩ = some (.int .i64 a1_0) ∧ w'.cell? ⟨gb102, 1, none⟩ = some (.string a1_1) ∧ w'.cell? ⟨gb102, 2, none⟩ = some (.string a1_2) ∧ w'.cell? ⟨gb102, 3, none⟩ = some (.slice (some ad104) l1_3.length c1_3) ∧ w'.cell? (ad103.add ((x5_2).toNat * 4)) = some (.int .i64 ((rd_T29 l0_3 x5_2).f0)) ∧ w'.cell? ⟨(ad103.add ((x5_2).toNat * 4)).block, (ad103.add ((x5_2).toNat * 4)).off + 1, none⟩ = some (.string ((rd_T29 l0_3 x5_2).f1)) ∧ w'.cell? ⟨(ad103.add ((x5_2).toNat * 4)).block, (ad103.add ((x5_2).toNat * 4)).off + 2, none⟩ = some (.string ((rd_T29 l0_3 x5_2).f2)) ∧ w'.cell? ⟨(ad103.add ((x5_2).toNat * 4)).block, (ad103.add ((x5_2).toNat * 4)).off + 3, none⟩ = some (.slice A103_3 ((rd_T29 l0_3 x5_2).f3).length c103_3) ∧ w'.cell? (ad104.add ((x5_2).toNat * 4)) = some (.int .i64 ((rd_T29 l1_3 x5_2).f0)) ∧ w'.cell? ⟨(ad104.add ((x5_2).toNat * 4)).block, (ad104.add ((x5_2).toNat * 4)).off + 1, none⟩ = some (.string ((rd_T29 l1_3 x5_2).f1)) ∧ w'.cell? ⟨(ad104.add ((x5_2).toNat * 4)).block, (ad104.add ((x5_2).toNat * 4)).off + 2, none⟩ = some (.string ((rd_T29 l1_3 x5_2).f2)) ∧ w'.cell? ⟨(ad104.add ((x5_2).toNat * 4)).block, (ad104.add ((x5_2).toNat * 4)).off + 3, none⟩ = some (.slice A104_3 ((rd_T29 l1_3 x5_2).f3).length c104_3)) (ds := []) #[false, false, false, false, false, false, false, false, false, false, false, false] (by kernel_rfl) rfl rfl ⟨(blk_cell BK101.out 0).trans rfl, (blk_cell BK101.out 1).trans rfl, (blk_cell BK101.out 2).trans rfl, (blk_cell BK101.out 3).trans rfl, (blk_cell BK102.out 0).trans rfl, (blk_cell BK102.out 1).trans rfl, (blk_cell BK102.out 2).trans rfl, (blk_cell BK102.out 3).trans rfl, ((HB.out.cell (World.block_lt_of_cell? w _ hw103_0)).trans hw103_0), ((HB.out.cell (World.block_lt_of_cell? w _ hw103_1)).trans hw103_1), ((HB.out.cell (World.block_lt_of_cell? w _ hw103_2)).trans hw103_2), ((HB.out.cell (World.block_lt_of_cell? w _ hw103_3)).trans hw103_3), ((HB.out.cell (World.block_lt_of_cell? w _ hw104_0)).trans hw104_0), ((HB.out.cell (World.block_lt_of_cell? w _ hw104_1)).trans hw104_1), ((HB.out.cell (World.block_lt_of_cell? w _ hw104_2)).trans hw104_2), ((HB.out.cell (World.block_lt_of_cell? w _ hw104_3)).trans hw104_3)⟩ (fun hHeld => ?_); refine with_tabW grommetref09_Same.tab6 grommetref09_Same.bits6 (fun HT_ HW_ => ?_)
      generalize wr.drew = w33 at BK101 BK102 HB HR103_3 HR104_3 hx103_0 hx103_1 hx103_2 hx103_3 hx104_0 hx104_1 hx104_2 hx104_3 hHeld ⊢
      refine pure_ (i := 0) (N := some 41) (v := ?_) (a' := ?_) #[true, false, false, false, false, false, false, false, false, false, false, false] rfl rfl (any_of HT_.out (by kernel_rfl)) (fun _ _ _ h => h) (Or.inl ⟨by rfl, ?_⟩) ?_ ?_
      rotate_left
      exact qgb10_
      rotate_left
      exact qgb11_
      refine pure_ (i := 2) (N := some 43) (v := ?_) (a' := ?_) #[true, false, true, false, false, false, false, false, false, false, false, false] rfl rfl (any_of HT_.out (by kernel_rfl)) (fun _ _ _ h => h) (Or.inl ⟨by rfl, ?_⟩) ?_ ?_
      rotate_left
      exact qgb10_
      rotate_left
      exact qgb11_
      refine pure_ (i := 5) (N := some 46) (v := ?_) (a' := ?_) #[true, false, true, false, false, true, false, false, false, false, false, false] rfl rfl (any_of HT_.out (by kernel_rfl)) (fun _ _ _ h => h) (Or.inl ⟨by rfl, ?_⟩) ?_ ?_
      rotate_left
      exact qgb10_
      rotate_left
      exact qgb11_
      refine pure_ (i := 7) (N := some 48) (v := ?_) (a' := ?_) #[true, false, true, false, false, true, false, true, false, false, false, false] rfl rfl (any_of HT_.out (by kernel_rfl)) (fun _ _ _ h => h) (Or.inl ⟨by rfl, ?_⟩) ?_ ?_
      rotate_left
      exact qgb10_
      rotate_left
      exact qgb11_
      refine take_ (i := 1) (N := some 42) (v := ?_) (a' := ?_) #[true, true, true, false, false, true, false, true, false, false, false, false] rfl rfl (take_ofW HT_.out HW_.out (by kernel_rfl)) (fun _ _ _ h => h) (Or.inl ⟨by rfl, ?_⟩) hHeld ?_ ?_
      rotate_left
      exact qgb12_
      rotate_left
      exact qgb11_
      refine pure_ (i := 3) (N := some 44) (v := ?_) (a' := ?_) #[true, true, true, true, false, true, false, true, false, false, false, false] rfl rfl (any_of HT_.out (by kernel_rfl)) (fun _ _ _ h => h) (Or.inl ⟨by rfl, ?_⟩) ?_ ?_
      rotate_left
      exact qgb10_
      rotate_left
      exact qgb11_
      refine take_ (i := 4) (N := some 45) (v := ?_) (a' := ?_) #[true, true, true, true, true, true, false, true, false, false, false, false] rfl rfl (take_ofW HT_.out HW_.out (by kernel_rfl)) (fun _ _ _ h => h) (Or.inl ⟨by rfl, ?_⟩) hHeld ?_ ?_
      rotate_left
      exact qgb12_
      rotate_left
      exact qgb11_
      refine take_ (i := 6) (N := some 47) (v := ?_) (a' := ?_) #[true, true, true, true, true, true, true, true, false, false, false, false] rfl rfl (take_ofW HT_.out HW_.out (by kernel_rfl)) (fun _ _ _ h => h) (Or.inl ⟨by rfl, ?_⟩) hHeld ?_ ?_
      rotate_left
      exact qgb12_
      rotate_left
      exact qgb11_
      refine pure_ (i := 8) (N := some 49) (v := ?_) (a' := ?_) #[true, true, true, true, true, true, true, true, true, false, false, false] rfl rfl (any_of HT_.out (by kernel_rfl)) (fun _ _ _ h => h) (Or.inl ⟨by rfl, ?_⟩) ?_ ?_
      rotate_left
      exact qgb10_
      rotate_left
      exact qgb11_
      refine take_ (i := 9) (N := some 50) (v := ?_) (a' := ?_) #[true, true, true, true, true, true, true, true, true, true, false, false] rfl rfl (take_ofW HT_.out HW_.out (by kernel_rfl)) (fun _ _ _ h => h) (Or.inl ⟨by rfl, ?_⟩) hHeld ?_ ?_
      rotate_left
      exact qgb12_
      rotate_left
      exact qgb11_
      refine one_ (i := 10) (N := some 51) #[true, true, true, true, true, true, true, true, true, true, true, false] rfl rfl (one_of HT_.out (by kernel_rfl)) (by decide) (fun K hK => ?_)
      refine goes_ Tryz.func15 (by kernel_rfl) rfl #[.agg #[.int .i64 ((rd_T29 l0_3 x5_2).f0), .string ((rd_T29 l0_3 x5_2).f1), .string ((rd_T29 l0_3 x5_2).f2), .slice A103_3 ((rd_T29 l0_3 x5_2).f3).length c103_3], .agg #[.int .i64 ((rd_T29 l1_3 x5_2).f0), .string ((rd_T29 l1_3 x5_2).f1), .string ((rd_T29 l1_3 x5_2).f2), .slice A104_3 ((rd_T29 l1_3 x5_2).f3).length c104_3]] (by rfl) rfl rfl (qgb9_) ?_
      with_reducible refine (ih k2 (by have := HJ2.out; have := HK2.out; omega) ((rd_T29 l0_3 x5_2).f0) ((rd_T29 l0_3 x5_2).f1) ((rd_T29 l0_3 x5_2).f2) _ _ ((rd_T29 l0_3 x5_2).f3) ((rd_T29 l1_3 x5_2).f0) ((rd_T29 l1_3 x5_2).f1) ((rd_T29 l1_3 x5_2).f2) _ _ ((rd_T29 l1_3 x5_2).f3) false _ ?side1 ?side2 ?side3 ?side4 (hG.below (qgb5_)) A25.out).mono ?_
      (case side1 => repeat (first | exact (Kd.C_below HR103_3.out HB.out) | (with_reducible refine Kd.C_alloc ?_ _) | (with_reducible refine Kd.C_drewN ?_ _) | (with_reducible refine Kd.C_drew ?_)))
      (case side2 => exact HC103_3.out)
      (case side3 => repeat (first | exact (Kd.C_below HR104_3.out HB.out) | (with_reducible refine Kd.C_alloc ?_ _) | (with_reducible refine Kd.C_drewN ?_ _) | (with_reducible refine Kd.C_drew ?_)))
      (case side4 => exact HC104_3.out)
      rintro e w34 ⟨rfl, hb⟩
      refine ⟨_, rfl, ?_⟩
      have n0_ := Aside0.mk (blk_below (g := gb101) (o := .cells #[.int .i64 a0_0, .string a0_1, .string a0_2, .slice (some ad103) l0_3.length c0_3] 29 (0, 0)) (qgb1_) hb)
      have n1_ := Aside0.mk (blk_below (g := gb102) (o := .cells #[.int .i64 a1_0, .string a1_1, .string a1_2, .slice (some ad104) l1_3.length c1_3] 29 (0, 0)) (qgb2_) hb)
      have n2_ := Aside0.mk (below_step (qgb0_) hb)
      clear BK101
      clear BK102
      clear HB
      have BK101 := n0_
      have BK102 := n1_
      have HB := n2_
      clear n0_ n1_ n2_
      (try clear hb)
      (try clear hb2)
      (try clear hk)
      (try clear hi)
      refine hK.out _ _ ⟨(blk_cell BK101.out 0).trans rfl, (blk_cell BK101.out 1).trans rfl, (blk_cell BK101.out 2).trans rfl, (blk_cell BK101.out 3).trans rfl, (blk_cell BK102.out 0).trans rfl, (blk_cell BK102.out 1).trans rfl, (blk_cell BK102.out 2).trans rfl, (blk_cell BK102.out 3).trans rfl, ((HB.out.cell (World.block_lt_of_cell? w _ hw103_0)).trans hw103_0), ((HB.out.cell (World.block_lt_of_cell? w _ hw103_1)).trans hw103_1), ((HB.out.cell (World.block_lt_of_cell? w _ hw103_2)).trans hw103_2), ((HB.out.cell (World.block_lt_of_cell? w _ hw103_3)).trans hw103_3), ((HB.out.cell (World.block_lt_of_cell? w _ hw104_0)).trans hw104_0), ((HB.out.cell (World.block_lt_of_cell? w _ hw104_1)).trans hw104_1), ((HB.out.cell (World.block_lt_of_cell? w _ hw104_2)).trans hw104_2), ((HB.out.cell (World.block_lt_of_cell? w _ hw104_3)).trans hw104_3)⟩ (fun hHeld => ?_)
      clear hK K
      refine norm_ (a' := ?_) ?_ ?_
      rotate_left
      ·
       show Act.put _ (some 51) _ = _
       simp only [Act.put, List.setIfInBounds_toArray, List.set_cons_zero, List.set_cons_succ, i64_w, i32_w]
       rfl
      refine pure_ (i := 11) (N := some 52) (v := ?_) (a' := ?_) #[true, true, true, true, true, true, true, true, true, true, true, true] rfl rfl (any_of HT_.out (by kernel_rfl)) (fun _ _ _ h => h) (Or.inl ⟨by rfl, ?_⟩) ?_ ?_
      rotate_left
      exact qgb10_
      rotate_left
      exact qgb11_
      refine done_ (done_of HT_.out (by kernel_rfl)) ?_
      try go_wp2
      go_ret
      exact ⟨qgb8_, qgb0_⟩
     subst c26
     have H1 : (grommetref09_Same.l0 k2 (wrap64 (x5_2 + 1)) a0_0 a0_1 a0_2 l0_3 a1_0 a1_1 a1_2 l1_3) = some r := by rw [if_pos rfl] at H; exact H
     clear H
     have H := H1
     clear H1
     have H' := Aside0.mk H
     clear H
     have hnb27 := NB101_102.out
     have hnc27 := NB102_101.out
     have hcz28_0 : wr.cell? ⟨gb101, 0, none⟩ = some (.int .i64 a0_0) := (blk_cell BK101.out 0).trans rfl
     have hcz28_1 : wr.cell? ⟨gb101, 1, none⟩ = some (.string a0_1) := (blk_cell BK101.out 1).trans rfl
     have hcz28_2 : wr.cell? ⟨gb101, 2, none⟩ = some (.string a0_2) := (blk_cell BK101.out 2).trans rfl
     have hcz28_3 : wr.cell? ⟨gb101, 3, none⟩ = some (.slice A0_3 l0_3.length c0_3) := (blk_cell BK101.out 3).trans rfl
     have hfz28_0 := blk_frozen BK101.out 0
     have hfz28_1 := blk_frozen BK101.out 1
     have hfz28_2 := blk_frozen BK101.out 2
     have hfz28_3 := blk_frozen BK101.out 3
     try go_wp2
     have n0_ := Aside0.mk (blk_drew BK101.out)
     have n1_ := Aside0.mk (blk_drew BK102.out)
     have n2_ := Aside0.mk (below_drew1 HB.out)
     clear BK101
     clear BK102
     clear HB
     have BK101 := n0_
     have BK102 := n1_
     have HB := n2_
     clear n0_ n1_ n2_
     have p103 : 0 ≤ (x5_2 : Int) := of_decide_eq_true (qgb4_)
     have q103 : x5_2 < (l0_3.length : Int) := of_decide_eq_true (qgb4_)
     obtain ⟨ad103, A103_3, c103_3, e103, hx103_0, hx103_1, hx103_2, hx103_3, hl103_3, hi103_3⟩ := at_T29 HR0_3.out x5_2 p103 q103
     have KX103_3 := Aside0.mk hx103_3
     have hw103_3 := hx103_3
     have hw103_2 := hx103_2
     have hw103_1 := hx103_1
     have hw103_0 := hx103_0
     cases e103
     replace hx103_0 := (HB.out.cell (World.block_lt_of_cell? w _ hx103_0)).trans hx103_0
     replace hx103_1 := (HB.out.cell (World.block_lt_of_cell? w _ hx103_1)).trans hx103_1
     replace hx103_2 := (HB.out.cell (World.block_lt_of_cell? w _ hx103_2)).trans hx103_2
     replace hx103_3 := (HB.out.cell (World.block_lt_of_cell? w _ hx103_3)).trans hx103_3
     have HR103_3 := Aside0.mk hi103_3
     have HC103_3 := Aside0.mk hl103_3
     clear hi103_3 hl103_3
     replace p103 := eq_true p103
     replace q103 := eq_true q103
     have p104 : 0 ≤ (x5_2 : Int) := of_decide_eq_true (qgb4_)
     have q104 : x5_2 < (l1_3.length : Int) := of_decide_eq_true (qgb4_)
     obtain ⟨ad104, A104_3, c104_3, e104, hx104_0, hx104_1, hx104_2, hx104_3, hl104_3, hi104_3⟩ := at_T29 HR1_3.out x5_2 p104 q104
     have KX104_3 := Aside0.mk hx104_3
     have hw104_3 := hx104_3
     have hw104_2 := hx104_2
     have hw104_1 := hx104_1
     have hw104_0 := hx104_0
     cases e104
     replace hx104_0 := (HB.out.cell (World.block_lt_of_cell? w _ hx104_0)).trans hx104_0
     replace hx104_1 := (HB.out.cell (World.block_lt_of_cell? w _ hx104_1)).trans hx104_1
     replace hx104_2 := (HB.out.cell (World.block_lt_of_cell? w _ hx104_2)).trans hx104_2
     replace hx104_3 := (HB.out.cell (World.block_lt_of_cell? w _ hx104_3)).trans hx104_3
     have HR104_3 := Aside0.mk hi104_3
     have HC104_3 := Aside0.mk hl104_3
     clear hi104_3 hl104_3
     replace p104 := eq_true p104
     replace q104 := eq_true q104
     refine start_ (n := 12) (S := fun w' => w'.cell? ⟨gb101, 0, none⟩ = some (.int .i64 a0_0) ∧ w'.cell? ⟨gb101, 1, none⟩ = some (.string a0_1) ∧ w'.cell? ⟨gb101, 2, none⟩ = some (.string a0_2) ∧ w'.cell? ⟨gb101, 3, none⟩ = some (.slice (some ad103) l0_3.length c0_3) ∧ w'.cell? ⟨gb102, 0, none⟩ = some (.int .i64 a1_0) ∧ w'.cell? ⟨gb102, 1, none⟩ = some (.string a1_1) ∧ w'.cell? ⟨gb102, 2, none⟩ = some (.string a1_2) ∧ w'.cell? ⟨gb102, 3, none⟩ = some (.slice (some ad104) l1_3.length c1_3) ∧ w'.cell? (ad103.add ((x5_2).toNat * 4)) = some (.int .i64 ((rd_T29 l0_3 x5_2).f0)) ∧ w'.cell? ⟨(ad103.add ((x5_2).toNat * 4)).block, (ad103.add ((x5_2).toNat * 4)).off + 1, none⟩ = some (.string ((rd_T29 l0_3 x5_2).f1)) ∧ w'.cell? ⟨(ad103.add ((x5_2).toNat * 4)).block, (ad103.add ((x5_2).toNat * 4)).off + 2, none⟩ = some (.string ((rd_T29 l0_3 x5_2).f2)) ∧ w'.cell? ⟨(ad103.add ((x5_2).toNat * 4)).block, (ad103.add ((x5_2).toNat * 4)).off + 3, none⟩ = some (.slice A103_3 ((rd_T29 l0_3 x5_2).f3).length c103_3) ∧ w'.cell? (ad104.add ((x5_2).toNat * 4)) = some (.int .i64 ((rd_T29 l1_3 x5_2).f0)) ∧ w'.cell? ⟨(ad104.add ((x5_2).toNat * 4)).block, (ad104.add ((x5_2).toNat * 4)).off + 1, none⟩ = some (.string ((rd_T29 l1_3 x5_2).f1)) ∧ w'.cell? ⟨(ad104.add ((x5_2).toNat * 4)).block, (ad104.add ((x5_2).toNat * 4)).off + 2, none⟩ = some (.string ((rd_T29 l1_3 x5_2).f2)) ∧ w'.cell? ⟨(ad104.add ((x5_2).toNat * 4)).block, (ad104.add ((x5_2).toNat * 4)).off + 3, none⟩ = some (.slice A104_3 ((rd_T29 l1_3 x5_2).f3).length c104_3)) (ds := []) #[false, false, false, false, false, false, false, false, false, false, false, false] (by kernel_rfl) rfl rfl ⟨(blk_cell BK101.out 0).trans rfl, (blk_cell BK101.out 1).trans rfl, (blk_cell BK101.out 2).trans rfl, (blk_cell BK101.out 3).trans rfl, (blk_cell BK102.out 0).trans rfl, (blk_cell BK102.out 1).trans rfl, (blk_cell BK102.out 2).trans rfl, (blk_cell BK102.out 3).trans rfl, ((HB.out.cell (World.block_lt_of_cell? w _ hw103_0)).trans hw103_0), ((HB.out.cell (World.block_lt_of_cell? w _ hw103_1)).trans hw103_1), ((HB.out.cell (World.block_lt_of_cell? w _ hw103_2)).trans hw103_2), ((HB.out.cell (World.block_lt_of_cell? w _ hw103_3)).trans hw103_3), ((HB.out.cell (World.block_lt_of_cell? w _ hw104_0)).trans hw104_0), ((HB.out.cell (World.block_lt_of_cell? w _ hw104_1)).trans hw104_1), ((HB.out.cell (World.block_lt_of_cell? w _ hw104_2)).trans hw104_2), ((HB.out.cell (World.block_lt_of_cell? w _ hw104_3)).trans hw104_3)⟩ (fun hHeld => ?_); refine with_tabW grommetref09_Same.tab6 grommetref09_Same.bits6 (fun HT_ HW_ => ?_)
     generalize wr.drew = w29 at BK101 BK102 HB HR103_3 HR104_3 hx103_0 hx103_1 hx103_2 hx103_3 hx104_0 hx104_1 hx104_2 hx104_3 hHeld ⊢
     refine pure_ (i := 0) (N := some 41) (v := ?_) (a' := ?_) #[true, false, false, false, false, false, false, false, false, false, false, false] rfl rfl (any_of HT_.out (by kernel_rfl)) (fun _ _ _ h => h) (Or.inl ⟨by rfl, ?_⟩) ?_ ?_
     rotate_left
     exact qgb10_
     rotate_left
     exact qgb11_
     refine pure_ (i := 2) (N := some 43) (v := ?_) (a' := ?_) #[true, false, true, false, false, false, false, false, false, false, false, false] rfl rfl (any_of HT_.out (by kernel_rfl)) (fun _ _ _ h => h) (Or.inl ⟨by rfl, ?_⟩) ?_ ?_
     rotate_left
     exact qgb10_
     rotate_left
     exact qgb11_
     refine pure_ (i := 5) (N := some 46) (v := ?_) (a' := ?_) #[true, false, true, false, false, true, false, false, false, false, false, false] rfl rfl (any_of HT_.out (by kernel_rfl)) (fun _ _ _ h => h) (Or.inl ⟨by rfl, ?_⟩) ?_ ?_
     rotate_left
     exact qgb10_
     rotate_left
     exact qgb11_
     refine pure_ (i := 7) (N := some 48) (v := ?_) (a' := ?_) #[true, false, true, false, false, true, false, true, false, false, false, false] rfl rfl (any_of HT_.out (by kernel_rfl)) (fun _ _ _ h => h) (Or.inl ⟨by rfl, ?_⟩) ?_ ?_
     rotate_left
     exact qgb10_
     rotate_left
     exact qgb11_
     refine take_ (i := 1) (N := some 42) (v := ?_) (a' := ?_) #[true, true, true, false, false, true, false, true, false, false, false, false] rfl rfl (take_ofW HT_.out HW_.out (by kernel_rfl)) (fun _ _ _ h => h) (Or.inl ⟨by rfl, ?_⟩) hHeld ?_ ?_
     rotate_left
     exact qgb12_
     rotate_left
     exact qgb11_
     refine pure_ (i := 3) (N := some 44) (v := ?_) (a' := ?_) #[true, true, true, true, false, true, false, true, false, false, false, false] rfl rfl (any_of HT_.out (by kernel_rfl)) (fun _ _ _ h => h) (Or.inl ⟨by rfl, ?_⟩) ?_ ?_
     rotate_left
     exact qgb10_
     rotate_left
     exact qgb11_
     refine take_ (i := 4) (N := some 45) (v := ?_) (a' := ?_) #[true, true, true, true, true, true, false, true, false, false, false, false] rfl rfl (take_ofW HT_.out HW_.out (by kernel_rfl)) (fun _ _ _ h => h) (Or.inl ⟨by rfl, ?_⟩) hHeld ?_ ?_
     rotate_left
     exact qgb12_
     rotate_left
     exact qgb11_
     refine take_ (i := 6) (N := some 47) (v := ?_) (a' := ?_) #[true, true, true, true, true, true, true, true, false, false, false, false] rfl rfl (take_ofW HT_.out HW_.out (by kernel_rfl)) (fun _ _ _ h => h) (Or.inl ⟨by rfl, ?_⟩) hHeld ?_ ?_
     rotate_left
     exact qgb12_
     rotate_left
     exact qgb11_
     refine pure_ (i := 8) (N := some 49) (v := ?_) (a' := ?_) #[true, true, true, true, true, true, true, true, true, false, false, false] rfl rfl (any_of HT_.out (by kernel_rfl)) (fun _ _ _ h => h) (Or.inl ⟨by rfl, ?_⟩) ?_ ?_
     rotate_left
     exact qgb10_
     rotate_left
     exact qgb11_
     refine take_ (i := 9) (N := some 50) (v := ?_) (a' := ?_) #[true, true, true, true, true, true, true, true, true, true, false, false] rfl rfl (take_ofW HT_.out HW_.out (by kernel_rfl)) (fun _ _ _ h => h) (Or.inl ⟨by rfl, ?_⟩) hHeld ?_ ?_
     rotate_left
     exact qgb12_
     rotate_left
     exact qgb11_
     refine one_ (i := 10) (N := some 51) #[true, true, true, true, true, true, true, true, true, true, true, false] rfl rfl (one_of HT_.out (by kernel_rfl)) (by decide) (fun K hK => ?_)
     refine goes_ Tryz.func15 (by kernel_rfl) rfl #[.agg #[.int .i64 ((rd_T29 l0_3 x5_2).f0), .string ((rd_T29 l0_3 x5_2).f1), .string ((rd_T29 l0_3 x5_2).f2), .slice A103_3 ((rd_T29 l0_3 x5_2).f3).length c103_3], .agg #[.int .i64 ((rd_T29 l1_3 x5_2).f0), .string ((rd_T29 l1_3 x5_2).f1), .string ((rd_T29 l1_3 x5_2).f2), .slice A104_3 ((rd_T29 l1_3 x5_2).f3).length c104_3]] (by rfl) rfl rfl (qgb9_) ?_
     with_reducible refine (ih k2 (by have := HJ2.out; have := HK2.out; omega) ((rd_T29 l0_3 x5_2).f0) ((rd_T29 l0_3 x5_2).f1) ((rd_T29 l0_3 x5_2).f2) _ _ ((rd_T29 l0_3 x5_2).f3) ((rd_T29 l1_3 x5_2).f0) ((rd_T29 l1_3 x5_2).f1) ((rd_T29 l1_3 x5_2).f2) _ _ ((rd_T29 l1_3 x5_2).f3) true _ ?side1 ?side2 ?side3 ?side4 (hG.below (qgb5_)) A25.out).mono ?_
     (case side1 => repeat (first | exact (Kd.C_below HR103_3.out HB.out) | (with_reducible refine Kd.C_alloc ?_ _) | (with_reducible refine Kd.C_drewN ?_ _) | (with_reducible refine Kd.C_drew ?_)))
     (case side2 => exact HC103_3.out)
     (case side3 => repeat (first | exact (Kd.C_below HR104_3.out HB.out) | (with_reducible refine Kd.C_alloc ?_ _) | (with_reducible refine Kd.C_drewN ?_ _) | (with_reducible refine Kd.C_drew ?_)))
     (case side4 => exact HC104_3.out)
     rintro e w30 ⟨rfl, hb⟩
     refine ⟨_, rfl, ?_⟩
     have n0_ := Aside0.mk (blk_below (g := gb101) (o := .cells #[.int .i64 a0_0, .string a0_1, .string a0_2, .slice (some ad103) l0_3.length c0_3] 29 (0, 0)) (qgb1_) hb)
     have n1_ := Aside0.mk (blk_below (g := gb102) (o := .cells #[.int .i64 a1_0, .string a1_1, .string a1_2, .slice (some ad104) l1_3.length c1_3] 29 (0, 0)) (qgb2_) hb)
     have n2_ := Aside0.mk (below_step (qgb0_) hb)
     clear BK101
     clear BK102
     clear HB
     have BK101 := n0_
     have BK102 := n1_
     have HB := n2_
     clear n0_ n1_ n2_
     (try clear hb)
     (try clear hb2)
     (try clear hk)
     (try clear hi)
     refine hK.out _ _ ⟨(blk_cell BK101.out 0).trans rfl, (blk_cell BK101.out 1).trans rfl, (blk_cell BK101.out 2).trans rfl, (blk_cell BK101.out 3).trans rfl, (blk_cell BK102.out 0).trans rfl, (blk_cell BK102.out 1).trans rfl, (blk_cell BK102.out 2).trans rfl, (blk_cell BK102.out 3).trans rfl, ((HB.out.cell (World.block_lt_of_cell? w _ hw103_0)).trans hw103_0), ((HB.out.cell (World.block_lt_of_cell? w _ hw103_1)).trans hw103_1), ((HB.out.cell (World.block_lt_of_cell? w _ hw103_2)).trans hw103_2), ((HB.out.cell (World.block_lt_of_cell? w _ hw103_3)).trans hw103_3), ((HB.out.cell (World.block_lt_of_cell? w _ hw104_0)).trans hw104_0), ((HB.out.cell (World.block_lt_of_cell? w _ hw104_1)).trans hw104_1), ((HB.out.cell (World.block_lt_of_cell? w _ hw104_2)).trans hw104_2), ((HB.out.cell (World.block_lt_of_cell? w _ hw104_3)).trans hw104_3)⟩ (fun hHeld => ?_)
     clear hK K
     refine norm_ (a' := ?_) ?_ ?_
     rotate_left
     ·
      show Act.put _ (some 51) _ = _
      simp only [Act.put, List.setIfInBounds_toArray, List.set_cons_zero, List.set_cons_succ, i64_w, i32_w]
      rfl
     refine pure_ (i := 11) (N := some 52) (v := ?_) (a' := ?_) #[true, true, true, true, true, true, true, true, true, true, true, true] rfl rfl (any_of HT_.out (by kernel_rfl)) (fun _ _ _ h => h) (Or.inl ⟨by rfl, ?_⟩) ?_ ?_
     rotate_left
     exact qgb10_
     rotate_left
     exact qgb11_
     refine done_ (done_of HT_.out (by kernel_rfl)) ?_
     try go_wp2
     go_roundg k2
     case measure => have := HJ2.out; have := HK2.out; omega
     case rel => exact ⟨(wrap64 (x5_2 + 1)), (qgb7_), H', ⟨by have := HJ2.out; have := HK2.out; omega⟩, ⟨qgb1_⟩, ⟨qgb2_⟩, ⟨qgb0_⟩⟩
end Go.Proofs.YtnjcpoojgmpmeaaGreatDoor.PX

/- Texts that stand behind one another, laid into one: what this claim needs of them. -/
import Derived.Test.YtiooacmplmcphaaGreatDoorBP0
import Derived.Test.YtiooacmplmcphaaGreatDoorBP1
import Derived.Test.YtiooacmplmcphaaGreatDoorBP2
import Derived.Maps.OwnSet
import Derived.Maps.Views
import Derived.DeepKeys4
import Derived.Deep.QuietTactic
import Derived.BigQuiet
import Derived.Outline
namespace Go.Proofs.YtiooacmplmcphaaGreatDoor.PX
open RowKit YtiooacmplmcphaaGreatDoorW.PrintWords YtiooacmplmcphaaGreatDoorW.PrintLast YtiooacmplmcphaaGreatDoorW.PrintMore YtiooacmplmcphaaGreatDoor YtiooacmplmcphaaGreatDoor.Plug
attribute [local go_sem] max2_int min2_int max_two min_two max_three min_three max_four min_four   -- for this text's walks alone
set_option linter.unusedVariables false
set_option linter.unusedSimpArgs false
def path_reader_step.f (s0_0 : Int) (s0_1 : ByteArray) (s0_2 : Int) (s0_3 : Int) : Option (ByteArray × Int × Bool × Int × ByteArray × Int × Int) := if 0 < (s0_1.size : Int) then (if (bt s0_1 0) = 91 then (if 1 ≤ (s0_1.size : Int) then ((path_reader_index.f s0_0 (s0_1.extract 1 s0_1.size) s0_2 s0_3).bind fun bt102 => (some (bt102.1, bt102.2.1, bt102.2.2.1, bt102.2.2.2.1, bt102.2.2.2.2.1, bt102.2.2.2.2.2.1, bt102.2.2.2.2.2.2))) else (none)) else (if (wrap64 (s0_0 - (s0_1.size : Int))) = 0 then ((path_reader_key.f s0_0 s0_1 s0_2 s0_3 (wrap64 (s0_0 - (s0_1.size : Int)))).bind fun bt109 => (some (bt109.1, bt109.2.1, bt109.2.2.1, bt109.2.2.2.1, bt109.2.2.2.2.1, bt109.2.2.2.2.2.1, bt109.2.2.2.2.2.2))) else (if (bt s0_1 0) = 46 then (if 1 ≤ (s0_1.size : Int) then ((path_reader_key.f s0_0 (s0_1.extract 1 s0_1.size) s0_2 s0_3 (wrap64 (s0_0 - (s0_1.size : Int)))).bind fun bt116 => (some (bt116.1, bt116.2.1, bt116.2.2.1, bt116.2.2.2.1, bt116.2.2.2.2.1, bt116.2.2.2.2.2.1, bt116.2.2.2.2.2.2))) else (none)) else ((path_reader_wrong.f s0_0 s0_1 s0_2 s0_3 0).bind fun bt123 => ((path_reader_key.f bt123.1 bt123.2.1 bt123.2.2.1 bt123.2.2.2 (wrap64 (s0_0 - (s0_1.size : Int)))).bind fun bt127 => (some (bt127.1, bt127.2.1, bt127.2.2.1, bt127.2.2.2.1, bt127.2.2.2.2.1, bt127.2.2.2.2.2.1, bt127.2.2.2.2.2.2))))))) else (none)
theorem qva0_ {P : Prop} (h_ : P := by repeat (first | (with_reducible first | exact HK.out | apply KeepBut.set_ | apply keep_drewN | apply keep_drew | apply keep_alloc) | exact HK.out)) : P := h_
theorem qva1_ {P : Prop} (h_ : P := by first | ((repeat (first | (with_reducible first | exact HB.out | apply below_alloc | apply pw_below_drewN | apply below_drew1 | (refine Glob.below_set ?_ (by assumption) _ _ _)) | exact HB.out)); done) | (refine Drawn0.below ?_; repeat (first | exact Drawn0.refl _ | assumption | apply Drawn0.step))) : P := h_
theorem qva2_ {P : Prop} (h_ : P := by repeat (first | (with_reducible first | exact HK.out | apply KeepBut.set_ | apply keep_drewN | apply keep_drew | apply keep_alloc | refine keep_far ?_ GW101.out _) | exact HK.out)) : P := h_
theorem qva3_ {P : Prop} (h_ : P := by repeat (first | (with_reducible first | exact HI0.out | apply IsS138.alloc | apply IsS138.drewN | apply IsS138.drew | apply IsS138.set_0 | apply IsS138.set_1 | apply IsS138.set_2 | apply IsS138.set_3) | exact HI0.out)) : P := h_
theorem qva4_ {P : Prop} (h_ : P := by repeat (first | (with_reducible first | exact HB.out | apply below_alloc | apply pw_below_drewN | apply below_drew1 | refine below_set ?_ (IsS138.ge HI0.out)) | exact HB.out)) : P := h_
theorem qva5_ {P : Prop} (h_ : P := by (with_reducible repeat (first | refine blk_drewN ?_ _ | refine blk_drew ?_ | refine blk_alloc ?_ _)); refine blk_far ?_ NB101_0.out _; (with_reducible repeat (first | refine blk_drewN ?_ _ | refine blk_drew ?_ | refine blk_alloc ?_ _)); exact BK101.out) : P := h_
theorem qva6_ {P : Prop} (h_ : P := by first | (with_reducible assumption) | assumption) : P := h_
theorem qva7_ {P : Prop} (h_ : P := by (with_reducible repeat (first | refine blk_drewN ?_ _ | refine blk_drew ?_ | refine blk_alloc ?_ _)); exact BK101.out) : P := h_
theorem qva8_ {P : Prop} (h_ : P := by repeat (first | (with_reducible first | exact HI0.out | apply IsS138.alloc | apply IsS138.drewN | apply IsS138.drew | apply IsS138.set_0 | apply IsS138.set_1 | apply IsS138.set_2 | apply IsS138.set_3 | refine IsS138.far ?_ NB0_101.out _) | exact HI0.out)) : P := h_
theorem qva9_ {P : Prop} (h_ : P := by repeat (first | (with_reducible first | exact HB.out | apply below_alloc | apply pw_below_drewN | apply below_drew1 | refine below_set ?_ (IsS138.ge HI0.out) | refine below_set ?_ GE101.out) | exact HB.out)) : P := h_
theorem qva10_ {P : Prop} (h_ : P := by first | rfl | (simp [errW_none, errW_some] <;> rfl) | (simp [*, errW_none, errW_some] <;> rfl)) : P := h_
theorem qva11_ {P : Prop} (h_ : P := by repeat (first | (with_reducible first | exact HI0.out | apply IsS138.alloc | apply IsS138.drewN | apply IsS138.drew | apply IsS138.set_0 | apply IsS138.set_1 | apply IsS138.set_2 | apply IsS138.set_3 | refine IsS138.far ?_ NB0_101.out _) | exact HI0.out)) : P := h_
theorem qva12_ {P : Prop} (h_ : P := by repeat (first | (with_reducible first | exact HB.out | apply below_alloc | apply pw_below_drewN | apply below_drew1 | refine below_set ?_ (IsS138.ge HI0.out) | refine below_set ?_ GE101.out) | exact HB.out)) : P := h_
set_option maxHeartbeats 8000000 in
set_option maxRecDepth 100000 in
theorem path_reader_step.calls (g : Nat) (s0_0 : Int) (s0_1 : ByteArray) (s0_2 : Int) (s0_3 : Int) (r1 : ByteArray) (r2 : Int) (r3 : Bool) (r4 : Int) (r5 : ByteArray) (r6 : Int) (r7 : Int) (w0 w : World) (hI : IsS138 w0 w g s0_0 s0_1 s0_2 s0_3) (hB : Below w0.heap.size w0 w) (hG : Glob.G w0) (h : path_reader_step.f s0_0 s0_1 s0_2 s0_3 = some (r1, r2, r3, r4, r5, r6, r7)) :
  Calls Tryz.prog 74 #[.pointer (some ⟨g, 0, none⟩)] w fun e w' => e = .returned (.agg #[.string r1, .int .i64 r2, .bool r3]) ∧ IsS138 w0 w' g r4 r5 r6 r7 ∧ Below w0.heap.size w0 w' ∧ KeepBut w w' g none := by
 have hu98 := Tryz.underlying98
 have HI0 := Aside0.mk hI
 have HK := Aside0.mk (KeepBut.refl w g none)
 have HL := Aside0.mk hB.size
 clear hI
 have HW0 := Aside0.mk hB.size
 have HB := Aside0.mk hB
 clear hB
 have H : (if 0 < (s0_1.size : Int) then (if (bt s0_1 0) = 91 then (if 1 ≤ (s0_1.size : Int) then ((path_reader_index.f s0_0 (s0_1.extract 1 s0_1.size) s0_2 s0_3).bind fun bt102 => (some (bt102.1, bt102.2.1, bt102.2.2.1, bt102.2.2.2.1, bt102.2.2.2.2.1, bt102.2.2.2.2.2.1, bt102.2.2.2.2.2.2))) else (none)) else (if (wrap64 (s0_0 - (s0_1.size : Int))) = 0 then ((path_reader_key.f s0_0 s0_1 s0_2 s0_3 (wrap64 (s0_0 - (s0_1.size : Int)))).bind fun bt109 => (some (bt109.1, bt109.2.1, bt109.2.2.1, bt109.2.2.2.1, bt109.2.2.2.2.1, bt109.2.2.2.2.2.1, bt109.2.2.2.2.2.2))) else (if (bt s0_1 0) = 46 then (if 1 ≤ (s0_1.size : Int) then ((path_reader_key.f s0_0 (s0_1.extract 1 s0_1.size) s0_2 s0_3 (wrap64 (s0_0 - (s0_1.size : Int)))).bind fun bt116 => (some (bt116.1, bt116.2.1, bt116.2.2.1, bt116.2.2.2.1, bt116.2.2.2.2.1, bt116.2.2.2.2.2.1, bt116.2.2.2.2.2.2))) else (none)) else ((path_reader_wrong.f s0_0 s0_1 s0_2 s0_3 0).bind fun bt123 => ((path_reader_key.f bt123.1 bt123.2.1 bt123.2.2.1 bt123.2.2.2 (wrap64 (s0_0 - (s0_1.size : Int)))).bind fun bt127 => (some (bt127.1, bt127.2.1, bt127.2.2.1, bt127.2.2.2.1, bt127.2.2.2.2.1, bt127.2.2.2.2.2.1, bt127.2.2.2.2.2.2))))))) else (none)) = some (r1, r2, r3, r4, r5, r6, r7) := h
 clear h
 by_cases c2 : 0 < (s0_1.size : Int)
 rotate_left
 ·
  rw [if_neg c2] at H
  exact absurd H (by simp)
 rw [if_pos c2] at H
 have c2b0 : decide (0 < (s0_1.size : Int)) = true := decide_eq_true c2
 have c2b1 : decide (0 < s0_1.size) = true := decide_eq_true (by omega)
 clear c2
 by_cases c4 : (bt s0_1 0) = 91
 ·
  rw [if_pos c4] at H
  have c4b0 : ((bt s0_1 0) == 91) = true := beq_iff_eq.mpr c4
  have c4b1 : ((bt s0_1 0) != 91) = false := bne_eq_false_iff_eq.mpr c4
  clear c4
  by_cases c5 : 1 ≤ (s0_1.size : Int)
  rotate_left
  ·
   rw [if_neg c5] at H
   exact absurd H (by simp)
  rw [if_pos c5] at H
  have c5b0 := eq_true c5
  have c5b1 : decide (1 ≤ (s0_1.size : Int)) = true := decide_eq_true c5
  clear c5
  replace H := Option.bind_eq_some_iff.mp H
  obtain ⟨⟨t102, t103, t104, t105, t106, t107, t108⟩, A60, H⟩ := H
  replace H : (some (t102, t103, t104, t105, t106, t107, t108)) = some (r1, r2, r3, r4, r5, r6, r7) := H
  have A6 := Aside0.mk A60
  clear A60
  simp only [Option.some.injEq, Prod.mk.injEq] at H
  obtain ⟨rfl, rfl, rfl, rfl, rfl, rfl, rfl⟩ := H
  go_enter Tryz.func74, Tryz.ntmps74
  go_wp2_with (first | ((with_reducible refine gate_dst (N := 2) rfl ?_); refine box_event ?hg (N := 2) ?hd (cs := #[.string (⟨#[]⟩ : ByteArray), .int .i64 0, .bool false]) (t := 98) ?hr ?_; (case hd => rfl); (case hg => rfl); (case hr => first | (go_simp; done) | (go_simp; rfl)); intro gb101 hg w7 hbox hb; have n0_ := Aside0.mk (IsS138.below (qva3_) hb); have n1_ := Aside0.mk (KeepBut.trans (qva0_) (KeepBut.of_below hb g none) (.inl rfl)); have n2_ := Aside0.mk (below_step (qva4_) hb); have n3_ := Aside0.mk (hbox); have n4_ := Aside0.mk ((by rw [hg]; exact (keep_size (w := w) (g := g) (row := none) (qva0_)) : w.heap.size ≤ gb101)); have n5_ := Aside0.mk ((Nat.le_trans HW0.out (by rw [hg]; exact (keep_size (w := w) (g := g) (row := none) (qva0_)) : w.heap.size ≤ gb101) : w0.heap.size ≤ gb101)); have n6_ := Aside0.mk ((by rw [hg]; exact Nat.ne_of_lt (IsS138.lt (show IsS138 w0 _ g s0_0 s0_1 s0_2 s0_3 from by repeat (first | (with_reducible first | exact HI0.out | apply IsS138.alloc | apply IsS138.drewN | apply IsS138.drew | apply IsS138.set_0 | apply IsS138.set_1 | apply IsS138.set_2 | apply IsS138.set_3) | exact HI0.out))) : g ≠ gb101)); have n7_ := Aside0.mk ((by rw [hg]; exact Nat.ne_of_gt (IsS138.lt (show IsS138 w0 _ g s0_0 s0_1 s0_2 s0_3 from by repeat (first | (with_reducible first | exact HI0.out | apply IsS138.alloc | apply IsS138.drewN | apply IsS138.drew | apply IsS138.set_0 | apply IsS138.set_1 | apply IsS138.set_2 | apply IsS138.set_3) | exact HI0.out))) : gb101 ≠ g)); clear HI0; clear HK; clear HB; have HI0 := n0_; have HK := n1_; have HB := n2_; have BK101 := n3_; have GW101 := n4_; have GE101 := n5_; have NB0_101 := n6_; have NB101_0 := n7_; clear n0_ n1_ n2_ n3_ n4_ n5_ n6_ n7_; clear hb hbox hg; obtain ⟨HGz8, hgz8⟩ := HI0.out; have hcz8_0 := cellS138_0 HGz8; have hcz8_1 := cellS138_1 HGz8; have hcz8_2 := cellS138_2 HGz8; have hcz8_3 := cellS138_3 HGz8; have hfz8_0 := blk_frozen HGz8 0; have hfz8_1 := blk_frozen HGz8 1; have hfz8_2 := blk_frozen HGz8 2; have hfz8_3 := blk_frozen HGz8 3; clear HGz8 hgz8; have p3 : 0 ≤ (0 : Int) := (by omega); have q3 : 0 < s0_1.size := (by have : (0 : Int) < (s0_1.size : Int) := of_decide_eq_true (qva6_); omega); have hx3 : ∀ h : 0 < s0_1.size, ((s0_1[0]'h).toNat : Int) = bt s0_1 0 := bt_at s0_1 0; clear p3; have qi3 : (0 < (s0_1.size : Int)) = True := eq_true (of_decide_eq_true (qva6_)); replace q3 := eq_true q3) | (go_at_call 98; (with_reducible refine (path_reader_index.calls g s0_0 (s0_1.extract 1 s0_1.size) s0_2 s0_3 t102 t103 t104 t105 t106 t107 t108 w0 _ ?side1 ?side2 (hG.below (qva1_)) A6.out).mono ?_); (case side1 => exact qva11_); (case side2 => exact qva12_); rintro e w9 ⟨rfl, hi, hb, hk⟩; have n0_ := Aside0.mk (KeepBut.blk hk (g' := gb101) (o := .cells #[.string (⟨#[]⟩ : ByteArray), .int .i64 0, .bool false] 98 (0, 0)) (qva5_) NB101_0.out (by simp)); have n1_ := Aside0.mk (KeepBut.trans (qva2_) hk (.inl rfl)); have n2_ := Aside0.mk (hb); have n3_ := Aside0.mk (hi); clear BK101; clear HK; clear HB; clear HI0; have BK101 := n0_; have HK := n1_; have HB := n2_; have HI0 := n3_; clear n0_ n1_ n2_ n3_; (try clear hb); (try clear hk); (try clear hi); have hnb10 := NB101_0.out; have hnc10 := NB0_101.out; have hcz11_0 : w9.cell? ⟨gb101, 0, none⟩ = some (.string (⟨#[]⟩ : ByteArray)) := (blk_cell BK101.out 0).trans rfl; have hcz11_1 : w9.cell? ⟨gb101, 1, none⟩ = some (.int .i64 0) := (blk_cell BK101.out 1).trans rfl; have hcz11_2 : w9.cell? ⟨gb101, 2, none⟩ = some (.bool false) := (blk_cell BK101.out 2).trans rfl; have hfz11_0 := blk_frozen BK101.out 0; have hfz11_1 := blk_frozen BK101.out 1; have hfz11_2 := blk_frozen BK101.out 2))
  repeat (go_quiet (first | ((with_reducible refine gate_dst (N := 2) rfl ?_); refine box_event ?hg (N := 2) ?hd (cs := #[.string (⟨#[]⟩ : ByteArray), .int .i64 0, .bool false]) (t := 98) ?hr ?_; (case hd => rfl); (case hg => rfl); (case hr => first | (go_simp; done) | (go_simp; rfl)); intro gb101 hg w7 hbox hb; have n0_ := Aside0.mk (IsS138.below (qva3_) hb); have n1_ := Aside0.mk (KeepBut.trans (qva0_) (KeepBut.of_below hb g none) (.inl rfl)); have n2_ := Aside0.mk (below_step (qva4_) hb); have n3_ := Aside0.mk (hbox); have n4_ := Aside0.mk ((by rw [hg]; exact (keep_size (w := w) (g := g) (row := none) (qva0_)) : w.heap.size ≤ gb101)); have n5_ := Aside0.mk ((Nat.le_trans HW0.out (by rw [hg]; exact (keep_size (w := w) (g := g) (row := none) (qva0_)) : w.heap.size ≤ gb101) : w0.heap.size ≤ gb101)); have n6_ := Aside0.mk ((by rw [hg]; exact Nat.ne_of_lt (IsS138.lt (show IsS138 w0 _ g s0_0 s0_1 s0_2 s0_3 from by repeat (first | (with_reducible first | exact HI0.out | apply IsS138.alloc | apply IsS138.drewN | apply IsS138.drew | apply IsS138.set_0 | apply IsS138.set_1 | apply IsS138.set_2 | apply IsS138.set_3) | exact HI0.out))) : g ≠ gb101)); have n7_ := Aside0.mk ((by rw [hg]; exact Nat.ne_of_gt (IsS138.lt (show IsS138 w0 _ g s0_0 s0_1 s0_2 s0_3 from by repeat (first | (with_reducible first | exact HI0.out | apply IsS138.alloc | apply IsS138.drewN | apply IsS138.drew | apply IsS138.set_0 | apply IsS138.set_1 | apply IsS138.set_2 | apply IsS138.set_3) | exact HI0.out))) : gb101 ≠ g)); clear HI0; clear HK; clear HB; have HI0 := n0_; have HK := n1_; have HB := n2_; have BK101 := n3_; have GW101 := n4_; have GE101 := n5_; have NB0_101 := n6_; have NB101_0 := n7_; clear n0_ n1_ n2_ n3_ n4_ n5_ n6_ n7_; clear hb hbox hg; obtain ⟨HGz8, hgz8⟩ := HI0.out; have hcz8_0 := cellS138_0 HGz8; have hcz8_1 := cellS138_1 HGz8; have hcz8_2 := cellS138_2 HGz8; have hcz8_3 := cellS138_3 HGz8; have hfz8_0 := blk_frozen HGz8 0; have hfz8_1 := blk_frozen HGz8 1; have hfz8_2 := blk_frozen HGz8 2; have hfz8_3 := blk_frozen HGz8 3; clear HGz8 hgz8; have p3 : 0 ≤ (0 : Int) := (by omega); have q3 : 0 < s0_1.size := (by have : (0 : Int) < (s0_1.size : Int) := of_decide_eq_true (qva6_); omega); have hx3 : ∀ h : 0 < s0_1.size, ((s0_1[0]'h).toNat : Int) = bt s0_1 0 := bt_at s0_1 0; clear p3; have qi3 : (0 < (s0_1.size : Int)) = True := eq_true (of_decide_eq_true (qva6_)); replace q3 := eq_true q3) | (go_at_call 98; (with_reducible refine (path_reader_index.calls g s0_0 (s0_1.extract 1 s0_1.size) s0_2 s0_3 t102 t103 t104 t105 t106 t107 t108 w0 _ ?side1 ?side2 (hG.below (qva1_)) A6.out).mono ?_); (case side1 => exact qva11_); (case side2 => exact qva12_); rintro e w9 ⟨rfl, hi, hb, hk⟩; have n0_ := Aside0.mk (KeepBut.blk hk (g' := gb101) (o := .cells #[.string (⟨#[]⟩ : ByteArray), .int .i64 0, .bool false] 98 (0, 0)) (qva5_) NB101_0.out (by simp)); have n1_ := Aside0.mk (KeepBut.trans (qva2_) hk (.inl rfl)); have n2_ := Aside0.mk (hb); have n3_ := Aside0.mk (hi); clear BK101; clear HK; clear HB; clear HI0; have BK101 := n0_; have HK := n1_; have HB := n2_; have HI0 := n3_; clear n0_ n1_ n2_ n3_; (try clear hb); (try clear hk); (try clear hi); have hnb10 := NB101_0.out; have hnc10 := NB0_101.out; have hcz11_0 : w9.cell? ⟨gb101, 0, none⟩ = some (.string (⟨#[]⟩ : ByteArray)) := (blk_cell BK101.out 0).trans rfl; have hcz11_1 : w9.cell? ⟨gb101, 1, none⟩ = some (.int .i64 0) := (blk_cell BK101.out 1).trans rfl; have hcz11_2 : w9.cell? ⟨gb101, 2, none⟩ = some (.bool false) := (blk_cell BK101.out 2).trans rfl; have hfz11_0 := blk_frozen BK101.out 0; have hfz11_1 := blk_frozen BK101.out 1; have hfz11_2 := blk_frozen BK101.out 2)); try go_wp2_with (first | ((with_reducible refine gate_dst (N := 2) rfl ?_); refine box_event ?hg (N := 2) ?hd (cs := #[.string (⟨#[]⟩ : ByteArray), .int .i64 0, .bool false]) (t := 98) ?hr ?_; (case hd => rfl); (case hg => rfl); (case hr => first | (go_simp; done) | (go_simp; rfl)); intro gb101 hg w7 hbox hb; have n0_ := Aside0.mk (IsS138.below (qva3_) hb); have n1_ := Aside0.mk (KeepBut.trans (qva0_) (KeepBut.of_below hb g none) (.inl rfl)); have n2_ := Aside0.mk (below_step (qva4_) hb); have n3_ := Aside0.mk (hbox); have n4_ := Aside0.mk ((by rw [hg]; exact (keep_size (w := w) (g := g) (row := none) (qva0_)) : w.heap.size ≤ gb101)); have n5_ := Aside0.mk ((Nat.le_trans HW0.out (by rw [hg]; exact (keep_size (w := w) (g := g) (row := none) (qva0_)) : w.heap.size ≤ gb101) : w0.heap.size ≤ gb101)); have n6_ := Aside0.mk ((by rw [hg]; exact Nat.ne_of_lt (IsS138.lt (show IsS138 w0 _ g s0_0 s0_1 s0_2 s0_3 from by repeat (first | (with_reducible first | exact HI0.out | apply IsS138.alloc | apply IsS138.drewN | apply IsS138.drew | apply IsS138.set_0 | apply IsS138.set_1 | apply IsS138.set_2 | apply IsS138.set_3) | exact HI0.out))) : g ≠ gb101)); have n7_ := Aside0.mk ((by rw [hg]; exact Nat.ne_of_gt (IsS138.lt (show IsS138 w0 _ g s0_0 s0_1 s0_2 s0_3 from by repeat (first | (with_reducible first | exact HI0.out | apply IsS138.alloc | apply IsS138.drewN | apply IsS138.drew | apply IsS138.set_0 | apply IsS138.set_1 | apply IsS138.set_2 | apply IsS138.set_3) | exact HI0.out))) : gb101 ≠ g)); clear HI0; clear HK; clear HB; have HI0 := n0_; have HK := n1_; have HB := n2_; have BK101 := n3_; have GW101 := n4_; have GE101 := n5_; have NB0_101 := n6_; have NB101_0 := n7_; clear n0_ n1_ n2_ n3_ n4_ n5_ n6_ n7_; clear hb hbox hg; obtain ⟨HGz8, hgz8⟩ := HI0.out; have hcz8_0 := cellS138_0 HGz8; have hcz8_1 := cellS138_1 HGz8; have hcz8_2 := cellS138_2 HGz8; have hcz8_3 := cellS138_3 HGz8; have hfz8_0 := blk_frozen HGz8 0; have hfz8_1 := blk_frozen HGz8 1; have hfz8_2 := blk_frozen HGz8 2; have hfz8_3 := blk_frozen HGz8 3; clear HGz8 hgz8; have p3 : 0 ≤ (0 : Int) := (by omega); have q3 : 0 < s0_1.size := (by have : (0 : Int) < (s0_1.size : Int) := of_decide_eq_true (qva6_); omega); have hx3 : ∀ h : 0 < s0_1.size, ((s0_1[0]'h).toNat : Int) = bt s0_1 0 := bt_at s0_1 0; clear p3; have qi3 : (0 < (s0_1.size : Int)) = True := eq_true (of_decide_eq_true (qva6_)); replace q3 := eq_true q3) | (go_at_call 98; (with_reducible refine (path_reader_index.calls g s0_0 (s0_1.extract 1 s0_1.size) s0_2 s0_3 t102 t103 t104 t105 t106 t107 t108 w0 _ ?side1 ?side2 (hG.below (qva1_)) A6.out).mono ?_); (case side1 => exact qva11_); (case side2 => exact qva12_); rintro e w9 ⟨rfl, hi, hb, hk⟩; have n0_ := Aside0.mk (KeepBut.blk hk (g' := gb101) (o := .cells #[.string (⟨#[]⟩ : ByteArray), .int .i64 0, .bool false] 98 (0, 0)) (qva5_) NB101_0.out (by simp)); have n1_ := Aside0.mk (KeepBut.trans (qva2_) hk (.inl rfl)); have n2_ := Aside0.mk (hb); have n3_ := Aside0.mk (hi); clear BK101; clear HK; clear HB; clear HI0; have BK101 := n0_; have HK := n1_; have HB := n2_; have HI0 := n3_; clear n0_ n1_ n2_ n3_; (try clear hb); (try clear hk); (try clear hi); have hnb10 := NB101_0.out; have hnc10 := NB0_101.out; have hcz11_0 : w9.cell? ⟨gb101, 0, none⟩ = some (.string (⟨#[]⟩ : ByteArray)) := (blk_cell BK101.out 0).trans rfl; have hcz11_1 : w9.cell? ⟨gb101, 1, none⟩ = some (.int .i64 0) := (blk_cell BK101.out 1).trans rfl; have hcz11_2 : w9.cell? ⟨gb101, 2, none⟩ = some (.bool false) := (blk_cell BK101.out 2).trans rfl; have hfz11_0 := blk_frozen BK101.out 0; have hfz11_1 := blk_frozen BK101.out 1; have hfz11_2 := blk_frozen BK101.out 2)))
  refine bodyPost_ret (results_cell_row rfl _ _ gb101 98 #[.string t102, .int .i64 t103, .bool t104] (0, 0) _ rfl (by (with_reducible repeat (first | refine blk_drewN ?_ _ | refine blk_drew ?_ | refine blk_alloc ?_ _)); refine blk_put (cs := #[.string t102, .int .i64 t103, .bool false]) ?_ 2 _ rfl; (with_reducible repeat (first | refine blk_drewN ?_ _ | refine blk_drew ?_ | refine blk_alloc ?_ _)); refine blk_put (cs := #[.string t102, .int .i64 0, .bool false]) ?_ 1 _ rfl; (with_reducible repeat (first | refine blk_drewN ?_ _ | refine blk_drew ?_ | refine blk_alloc ?_ _)); refine blk_put (cs := #[.string (⟨#[]⟩ : ByteArray), .int .i64 0, .bool false]) ?_ 0 _ rfl; (with_reducible repeat (first | refine blk_drewN ?_ _ | refine blk_drew ?_ | refine blk_alloc ?_ _)); exact BK101.out) Tryz.underlying98 rfl (by kernel_rfl)) rfl ?_
  exact ⟨qva10_, qva8_, qva9_, qva2_⟩
 rw [if_neg c4] at H
 have c4b0 : ((bt s0_1 0) == 91) = false := beq_eq_false_iff_ne.mpr c4
 have c4b1 : ((bt s0_1 0) != 91) = true := bne_iff_ne.mpr c4
 by_cases c12 : (wrap64 (s0_0 - (s0_1.size : Int))) = 0
 ·
  rw [if_pos c12] at H
  have c12b0 : ((wrap64 (s0_0 - (s0_1.size : Int))) == 0) = true := beq_iff_eq.mpr c12
  have c12b1 : ((wrap64 (s0_0 - (s0_1.size : Int))) != 0) = false := bne_eq_false_iff_eq.mpr c12
  clear c12
  replace H := Option.bind_eq_some_iff.mp H
  obtain ⟨⟨t109, t110, t111, t112, t113, t114, t115⟩, A130, H⟩ := H
  replace H : (some (t109, t110, t111, t112, t113, t114, t115)) = some (r1, r2, r3, r4, r5, r6, r7) := H
  have A13 := Aside0.mk A130
  clear A130
  simp only [Option.some.injEq, Prod.mk.injEq] at H
  obtain ⟨rfl, rfl, rfl, rfl, rfl, rfl, rfl⟩ := H
  go_enter Tryz.func74, Tryz.ntmps74
  go_wp2_with (first | ((with_reducible refine gate_dst (N := 2) rfl ?_); refine box_event ?hg (N := 2) ?hd (cs := #[.string (⟨#[]⟩ : ByteArray), .int .i64 0, .bool false]) (t := 98) ?hr ?_; (case hd => rfl); (case hg => rfl); (case hr => first | (go_simp; done) | (go_simp; rfl)); intro gb101 hg w14 hbox hb; have n0_ := Aside0.mk (IsS138.below (qva3_) hb); have n1_ := Aside0.mk (KeepBut.trans (qva0_) (KeepBut.of_below hb g none) (.inl rfl)); have n2_ := Aside0.mk (below_step (qva4_) hb); have n3_ := Aside0.mk (hbox); have n4_ := Aside0.mk ((by rw [hg]; exact (keep_size (w := w) (g := g) (row := none) (qva0_)) : w.heap.size ≤ gb101)); have n5_ := Aside0.mk ((Nat.le_trans HW0.out (by rw [hg]; exact (keep_size (w := w) (g := g) (row := none) (qva0_)) : w.heap.size ≤ gb101) : w0.heap.size ≤ gb101)); have n6_ := Aside0.mk ((by rw [hg]; exact Nat.ne_of_lt (IsS138.lt (show IsS138 w0 _ g s0_0 s0_1 s0_2 s0_3 from by repeat (first | (with_reducible first | exact HI0.out | apply IsS138.alloc | apply IsS138.drewN | apply IsS138.drew | apply IsS138.set_0 | apply IsS138.set_1 | apply IsS138.set_2 | apply IsS138.set_3) | exact HI0.out))) : g ≠ gb101)); have n7_ := Aside0.mk ((by rw [hg]; exact Nat.ne_of_gt (IsS138.lt (show IsS138 w0 _ g s0_0 s0_1 s0_2 s0_3 from by repeat (first | (with_reducible first | exact HI0.out | apply IsS138.alloc | apply IsS138.drewN | apply IsS138.drew | apply IsS138.set_0 | apply IsS138.set_1 | apply IsS138.set_2 | apply IsS138.set_3) | exact HI0.out))) : gb101 ≠ g)); clear HI0; clear HK; clear HB; have HI0 := n0_; have HK := n1_; have HB := n2_; have BK101 := n3_; have GW101 := n4_; have GE101 := n5_; have NB0_101 := n6_; have NB101_0 := n7_; clear n0_ n1_ n2_ n3_ n4_ n5_ n6_ n7_; clear hb hbox hg; obtain ⟨HGz15, hgz15⟩ := HI0.out; have hcz15_0 := cellS138_0 HGz15; have hcz15_1 := cellS138_1 HGz15; have hcz15_2 := cellS138_2 HGz15; have hcz15_3 := cellS138_3 HGz15; have hfz15_0 := blk_frozen HGz15 0; have hfz15_1 := blk_frozen HGz15 1; have hfz15_2 := blk_frozen HGz15 2; have hfz15_3 := blk_frozen HGz15 3; clear HGz15 hgz15; have p3 : 0 ≤ (0 : Int) := (by omega); have q3 : 0 < s0_1.size := (by have : (0 : Int) < (s0_1.size : Int) := of_decide_eq_true (qva6_); omega); have hx3 : ∀ h : 0 < s0_1.size, ((s0_1[0]'h).toNat : Int) = bt s0_1 0 := bt_at s0_1 0; clear p3; have qi3 : (0 < (s0_1.size : Int)) = True := eq_true (of_decide_eq_true (qva6_)); replace q3 := eq_true q3) | (go_at_call 100; (with_reducible refine (path_reader_key.calls g s0_0 s0_1 s0_2 s0_3 (wrap64 (s0_0 - (s0_1.size : Int))) t109 t110 t111 t112 t113 t114 t115 w0 _ ?side1 ?side2 (hG.below (qva1_)) A13.out).mono ?_); (case side1 => exact qva11_); (case side2 => exact qva12_); rintro e w16 ⟨rfl, hi, hb, hk⟩; have n0_ := Aside0.mk (KeepBut.blk hk (g' := gb101) (o := .cells #[.string (⟨#[]⟩ : ByteArray), .int .i64 0, .bool false] 98 (0, 0)) (qva7_) NB101_0.out (by simp)); have n1_ := Aside0.mk (KeepBut.trans (qva2_) hk (.inl rfl)); have n2_ := Aside0.mk (hb); have n3_ := Aside0.mk (hi); clear BK101; clear HK; clear HB; clear HI0; have BK101 := n0_; have HK := n1_; have HB := n2_; have HI0 := n3_; clear n0_ n1_ n2_ n3_; (try clear hb); (try clear hk); (try clear hi); have hnb17 := NB101_0.out; have hnc17 := NB0_101.out; have hcz18_0 : w16.cell? ⟨gb101, 0, none⟩ = some (.string (⟨#[]⟩ : ByteArray)) := (blk_cell BK101.out 0).trans rfl; have hcz18_1 : w16.cell? ⟨gb101, 1, none⟩ = some (.int .i64 0) := (blk_cell BK101.out 1).trans rfl; have hcz18_2 : w16.cell? ⟨gb101, 2, none⟩ = some (.bool false) := (blk_cell BK101.out 2).trans rfl; have hfz18_0 := blk_frozen BK101.out 0; have hfz18_1 := blk_frozen BK101.out 1; have hfz18_2 := blk_frozen BK101.out 2))
  repeat (go_quiet (first | ((with_reducible refine gate_dst (N := 2) rfl ?_); refine box_event ?hg (N := 2) ?hd (cs := #[.string (⟨#[]⟩ : ByteArray), .int .i64 0, .bool false]) (t := 98) ?hr ?_; (case hd => rfl); (case hg => rfl); (case hr => first | (go_simp; done) | (go_simp; rfl)); intro gb101 hg w14 hbox hb; have n0_ := Aside0.mk (IsS138.below (qva3_) hb); have n1_ := Aside0.mk (KeepBut.trans (qva0_) (KeepBut.of_below hb g none) (.inl rfl)); have n2_ := Aside0.mk (below_step (qva4_) hb); have n3_ := Aside0.mk (hbox); have n4_ := Aside0.mk ((by rw [hg]; exact (keep_size (w := w) (g := g) (row := none) (qva0_)) : w.heap.size ≤ gb101)); have n5_ := Aside0.mk ((Nat.le_trans HW0.out (by rw [hg]; exact (keep_size (w := w) (g := g) (row := none) (qva0_)) : w.heap.size ≤ gb101) : w0.heap.size ≤ gb101)); have n6_ := Aside0.mk ((by rw [hg]; exact Nat.ne_of_lt (IsS138.lt (show IsS138 w0 _ g s0_0 s0_1 s0_2 s0_3 from by repeat (first | (with_reducible first | exact HI0.out | apply IsS138.alloc | apply IsS138.drewN | apply IsS138.drew | apply IsS138.set_0 | apply IsS138.set_1 | apply IsS138.set_2 | apply IsS138.set_3) | exact HI0.out))) : g ≠ gb101)); have n7_ := Aside0.mk ((by rw [hg]; exact Nat.ne_of_gt (IsS138.lt (show IsS138 w0 _ g s0_0 s0_1 s0_2 s0_3 from by repeat (first | (with_reducible first | exact HI0.out | apply IsS138.alloc | apply IsS138.drewN | apply IsS138.drew | apply IsS138.set_0 | apply IsS138.set_1 | apply IsS138.set_2 | apply IsS138.set_3) | exact HI0.out))) : gb101 ≠ g)); clear HI0; clear HK; clear HB; have HI0 := n0_; have HK := n1_; have HB := n2_; have BK101 := n3_; have GW101 := n4_; have GE101 := n5_; have NB0_101 := n6_; have NB101_0 := n7_; clear n0_ n1_ n2_ n3_ n4_ n5_ n6_ n7_; clear hb hbox hg; obtain ⟨HGz15, hgz15⟩ := HI0.out; have hcz15_0 := cellS138_0 HGz15; have hcz15_1 := cellS138_1 HGz15; have hcz15_2 := cellS138_2 HGz15; have hcz15_3 := cellS138_3 HGz15; have hfz15_0 := blk_frozen HGz15 0; have hfz15_1 := blk_frozen HGz15 1; have hfz15_2 := blk_frozen HGz15 2; have hfz15_3 := blk_frozen HGz15 3; clear HGz15 hgz15; have p3 : 0 ≤ (0 : Int) := (by omega); have q3 : 0 < s0_1.size := (by have : (0 : Int) < (s0_1.size : Int) := of_decide_eq_true (qva6_); omega); have hx3 : ∀ h : 0 < s0_1.size, ((s0_1[0]'h).toNat : Int) = bt s0_1 0 := bt_at s0_1 0; clear p3; have qi3 : (0 < (s0_1.size : Int)) = True := eq_true (of_decide_eq_true (qva6_)); replace q3 := eq_true q3) | (go_at_call 100; (with_reducible refine (path_reader_key.calls g s0_0 s0_1 s0_2 s0_3 (wrap64 (s0_0 - (s0_1.size : Int))) t109 t110 t111 t112 t113 t114 t115 w0 _ ?side1 ?side2 (hG.below (qva1_)) A13.out).mono ?_); (case side1 => exact qva11_); (case side2 => exact qva12_); rintro e w16 ⟨rfl, hi, hb, hk⟩; have n0_ := Aside0.mk (KeepBut.blk hk (g' := gb101) (o := .cells #[.string (⟨#[]⟩ : ByteArray), .int .i64 0, .bool false] 98 (0, 0)) (qva7_) NB101_0.out (by simp)); have n1_ := Aside0.mk (KeepBut.trans (qva2_) hk (.inl rfl)); have n2_ := Aside0.mk (hb); have n3_ := Aside0.mk (hi); clear BK101; clear HK; clear HB; clear HI0; have BK101 := n0_; have HK := n1_; have HB := n2_; have HI0 := n3_; clear n0_ n1_ n2_ n3_; (try clear hb); (try clear hk); (try clear hi); have hnb17 := NB101_0.out; have hnc17 := NB0_101.out; have hcz18_0 : w16.cell? ⟨gb101, 0, none⟩ = some (.string (⟨#[]⟩ : ByteArray)) := (blk_cell BK101.out 0).trans rfl; have hcz18_1 : w16.cell? ⟨gb101, 1, none⟩ = some (.int .i64 0) := (blk_cell BK101.out 1).trans rfl; have hcz18_2 : w16.cell? ⟨gb101, 2, none⟩ = some (.bool false) := (blk_cell BK101.out 2).trans rfl; have hfz18_0 := blk_frozen BK101.out 0; have hfz18_1 := blk_frozen BK101.out 1; have hfz18_2 := blk_frozen BK101.out 2)); try go_wp2_with (first | ((with_reducible refine gate_dst (N := 2) rfl ?_); refine box_event ?hg (N := 2) ?hd (cs := #[.string (⟨#[]⟩ : ByteArray), .int .i64 0, .bool false]) (t := 98) ?hr ?_; (case hd => rfl); (case hg => rfl); (case hr => first | (go_simp; done) | (go_simp; rfl)); intro gb101 hg w14 hbox hb; have n0_ := Aside0.mk (IsS138.below (qva3_) hb); have n1_ := Aside0.mk (KeepBut.trans (qva0_) (KeepBut.of_below hb g none) (.inl rfl)); have n2_ := Aside0.mk (below_step (qva4_) hb); have n3_ := Aside0.mk (hbox); have n4_ := Aside0.mk ((by rw [hg]; exact (keep_size (w := w) (g := g) (row := none) (qva0_)) : w.heap.size ≤ gb101)); have n5_ := Aside0.mk ((Nat.le_trans HW0.out (by rw [hg]; exact (keep_size (w := w) (g := g) (row := none) (qva0_)) : w.heap.size ≤ gb101) : w0.heap.size ≤ gb101)); have n6_ := Aside0.mk ((by rw [hg]; exact Nat.ne_of_lt (IsS138.lt (show IsS138 w0 _ g s0_0 s0_1 s0_2 s0_3 from by repeat (first | (with_reducible first | exact HI0.out | apply IsS138.alloc | apply IsS138.drewN | apply IsS138.drew | apply IsS138.set_0 | apply IsS138.set_1 | apply IsS138.set_2 | apply IsS138.set_3) | exact HI0.out))) : g ≠ gb101)); have n7_ := Aside0.mk ((by rw [hg]; exact Nat.ne_of_gt (IsS138.lt (show IsS138 w0 _ g s0_0 s0_1 s0_2 s0_3 from by repeat (first | (with_reducible first | exact HI0.out | apply IsS138.alloc | apply IsS138.drewN | apply IsS138.drew | apply IsS138.set_0 | apply IsS138.set_1 | apply IsS138.set_2 | apply IsS138.set_3) | exact HI0.out))) : gb101 ≠ g)); clear HI0; clear HK; clear HB; have HI0 := n0_; have HK := n1_; have HB := n2_; have BK101 := n3_; have GW101 := n4_; have GE101 := n5_; have NB0_101 := n6_; have NB101_0 := n7_; clear n0_ n1_ n2_ n3_ n4_ n5_ n6_ n7_; clear hb hbox hg; obtain ⟨HGz15, hgz15⟩ := HI0.out; have hcz15_0 := cellS138_0 HGz15; have hcz15_1 := cellS138_1 HGz15; have hcz15_2 := cellS138_2 HGz15; have hcz15_3 := cellS138_3 HGz15; have hfz15_0 := blk_frozen HGz15 0; have hfz15_1 := blk_frozen HGz15 1; have hfz15_2 := blk_frozen HGz15 2; have hfz15_3 := blk_frozen HGz15 3; clear HGz15 hgz15; have p3 : 0 ≤ (0 : Int) := (by omega); have q3 : 0 < s0_1.size := (by have : (0 : Int) < (s0_1.size : Int) := of_decide_eq_true (qva6_); omega); have hx3 : ∀ h : 0 < s0_1.size, ((s0_1[0]'h).toNat : Int) = bt s0_1 0 := bt_at s0_1 0; clear p3; have qi3 : (0 < (s0_1.size : Int)) = True := eq_true (of_decide_eq_true (qva6_)); replace q3 := eq_true q3) | (go_at_call 100; (with_reducible refine (path_reader_key.calls g s0_0 s0_1 s0_2 s0_3 (wrap64 (s0_0 - (s0_1.size : Int))) t109 t110 t111 t112 t113 t114 t115 w0 _ ?side1 ?side2 (hG.below (qva1_)) A13.out).mono ?_); (case side1 => exact qva11_); (case side2 => exact qva12_); rintro e w16 ⟨rfl, hi, hb, hk⟩; have n0_ := Aside0.mk (KeepBut.blk hk (g' := gb101) (o := .cells #[.string (⟨#[]⟩ : ByteArray), .int .i64 0, .bool false] 98 (0, 0)) (qva7_) NB101_0.out (by simp)); have n1_ := Aside0.mk (KeepBut.trans (qva2_) hk (.inl rfl)); have n2_ := Aside0.mk (hb); have n3_ := Aside0.mk (hi); clear BK101; clear HK; clear HB; clear HI0; have BK101 := n0_; have HK := n1_; have HB := n2_; have HI0 := n3_; clear n0_ n1_ n2_ n3_; (try clear hb); (try clear hk); (try clear hi); have hnb17 := NB101_0.out; have hnc17 := NB0_101.out; have hcz18_0 : w16.cell? ⟨gb101, 0, none⟩ = some (.string (⟨#[]⟩ : ByteArray)) := (blk_cell BK101.out 0).trans rfl; have hcz18_1 : w16.cell? ⟨gb101, 1, none⟩ = some (.int .i64 0) := (blk_cell BK101.out 1).trans rfl; have hcz18_2 : w16.cell? ⟨gb101, 2, none⟩ = some (.bool false) := (blk_cell BK101.out 2).trans rfl; have hfz18_0 := blk_frozen BK101.out 0; have hfz18_1 := blk_frozen BK101.out 1; have hfz18_2 := blk_frozen BK101.out 2)))
  refine bodyPost_ret (results_cell_row rfl _ _ gb101 98 #[.string t109, .int .i64 t110, .bool t111] (0, 0) _ rfl (by (with_reducible repeat (first | refine blk_drewN ?_ _ | refine blk_drew ?_ | refine blk_alloc ?_ _)); refine blk_put (cs := #[.string t109, .int .i64 t110, .bool false]) ?_ 2 _ rfl; (with_reducible repeat (first | refine blk_drewN ?_ _ | refine blk_drew ?_ | refine blk_alloc ?_ _)); refine blk_put (cs := #[.string t109, .int .i64 0, .bool false]) ?_ 1 _ rfl; (with_reducible repeat (first | refine blk_drewN ?_ _ | refine blk_drew ?_ | refine blk_alloc ?_ _)); refine blk_put (cs := #[.string (⟨#[]⟩ : ByteArray), .int .i64 0, .bool false]) ?_ 0 _ rfl; (with_reducible repeat (first | refine blk_drewN ?_ _ | refine blk_drew ?_ | refine blk_alloc ?_ _)); exact BK101.out) Tryz.underlying98 rfl (by kernel_rfl)) rfl ?_
  exact ⟨qva10_, qva8_, qva9_, qva2_⟩
 rw [if_neg c12] at H
 have c12b0 : ((wrap64 (s0_0 - (s0_1.size : Int))) == 0) = false := beq_eq_false_iff_ne.mpr c12
 have c12b1 : ((wrap64 (s0_0 - (s0_1.size : Int))) != 0) = true := bne_iff_ne.mpr c12
 by_cases c19 : (bt s0_1 0) = 46
 ·
  rw [if_pos c19] at H
  have c19b0 : ((bt s0_1 0) == 46) = true := beq_iff_eq.mpr c19
  have c19b1 : ((bt s0_1 0) != 46) = false := bne_eq_false_iff_eq.mpr c19
  clear c19
  by_cases c20 : 1 ≤ (s0_1.size : Int)
  rotate_left
  ·
   rw [if_neg c20] at H
   exact absurd H (by simp)
  rw [if_pos c20] at H
  have c20b0 := eq_true c20
  have c20b1 : decide (1 ≤ (s0_1.size : Int)) = true := decide_eq_true c20
  clear c20
  replace H := Option.bind_eq_some_iff.mp H
  obtain ⟨⟨t116, t117, t118, t119, t120, t121, t122⟩, A210, H⟩ := H
  replace H : (some (t116, t117, t118, t119, t120, t121, t122)) = some (r1, r2, r3, r4, r5, r6, r7) := H
  have A21 := Aside0.mk A210
  clear A210
  simp only [Option.some.injEq, Prod.mk.injEq] at H
  obtain ⟨rfl, rfl, rfl, rfl, rfl, rfl, rfl⟩ := H
  go_enter Tryz.func74, Tryz.ntmps74
  go_wp2_with (first | ((with_reducible refine gate_dst (N := 2) rfl ?_); refine box_event ?hg (N := 2) ?hd (cs := #[.string (⟨#[]⟩ : ByteArray), .int .i64 0, .bool false]) (t := 98) ?hr ?_; (case hd => rfl); (case hg => rfl); (case hr => first | (go_simp; done) | (go_simp; rfl)); intro gb101 hg w22 hbox hb; have n0_ := Aside0.mk (IsS138.below (qva3_) hb); have n1_ := Aside0.mk (KeepBut.trans (qva0_) (KeepBut.of_below hb g none) (.inl rfl)); have n2_ := Aside0.mk (below_step (qva4_) hb); have n3_ := Aside0.mk (hbox); have n4_ := Aside0.mk ((by rw [hg]; exact (keep_size (w := w) (g := g) (row := none) (qva0_)) : w.heap.size ≤ gb101)); have n5_ := Aside0.mk ((Nat.le_trans HW0.out (by rw [hg]; exact (keep_size (w := w) (g := g) (row := none) (qva0_)) : w.heap.size ≤ gb101) : w0.heap.size ≤ gb101)); have n6_ := Aside0.mk ((by rw [hg]; exact Nat.ne_of_lt (IsS138.lt (show IsS138 w0 _ g s0_0 s0_1 s0_2 s0_3 from by repeat (first | (with_reducible first | exact HI0.out | apply IsS138.alloc | apply IsS138.drewN | apply IsS138.drew | apply IsS138.set_0 | apply IsS138.set_1 | apply IsS138.set_2 | apply IsS138.set_3) | exact HI0.out))) : g ≠ gb101)); have n7_ := Aside0.mk ((by rw [hg]; exact Nat.ne_of_gt (IsS138.lt (show IsS138 w0 _ g s0_0 s0_1 s0_2 s0_3 from by repeat (first | (with_reducible first | exact HI0.out | apply IsS138.alloc | apply IsS138.drewN | apply IsS138.drew | apply IsS138.set_0 | apply IsS138.set_1 | apply IsS138.set_2 | apply IsS138.set_3) | exact HI0.out))) : gb101 ≠ g)); clear HI0; clear HK; clear HB; have HI0 := n0_; have HK := n1_; have HB := n2_; have BK101 := n3_; have GW101 := n4_; have GE101 := n5_; have NB0_101 := n6_; have NB101_0 := n7_; clear n0_ n1_ n2_ n3_ n4_ n5_ n6_ n7_; clear hb hbox hg; obtain ⟨HGz23, hgz23⟩ := HI0.out; have hcz23_0 := cellS138_0 HGz23; have hcz23_1 := cellS138_1 HGz23; have hcz23_2 := cellS138_2 HGz23; have hcz23_3 := cellS138_3 HGz23; have hfz23_0 := blk_frozen HGz23 0; have hfz23_1 := blk_frozen HGz23 1; have hfz23_2 := blk_frozen HGz23 2; have hfz23_3 := blk_frozen HGz23 3; clear HGz23 hgz23; have p3 : 0 ≤ (0 : Int) := (by omega); have q3 : 0 < s0_1.size := (by have : (0 : Int) < (s0_1.size : Int) := of_decide_eq_true (qva6_); omega); have hx3 : ∀ h : 0 < s0_1.size, ((s0_1[0]'h).toNat : Int) = bt s0_1 0 := bt_at s0_1 0; clear p3; have qi3 : (0 < (s0_1.size : Int)) = True := eq_true (of_decide_eq_true (qva6_)); replace q3 := eq_true q3) | (go_at_call 100; (with_reducible refine (path_reader_key.calls g s0_0 (s0_1.extract 1 s0_1.size) s0_2 s0_3 (wrap64 (s0_0 - (s0_1.size : Int))) t116 t117 t118 t119 t120 t121 t122 w0 _ ?side1 ?side2 (hG.below (qva1_)) A21.out).mono ?_); (case side1 => exact qva11_); (case side2 => exact qva12_); rintro e w24 ⟨rfl, hi, hb, hk⟩; have n0_ := Aside0.mk (KeepBut.blk hk (g' := gb101) (o := .cells #[.string (⟨#[]⟩ : ByteArray), .int .i64 0, .bool false] 98 (0, 0)) (qva5_) NB101_0.out (by simp)); have n1_ := Aside0.mk (KeepBut.trans (qva2_) hk (.inl rfl)); have n2_ := Aside0.mk (hb); have n3_ := Aside0.mk (hi); clear BK101; clear HK; clear HB; clear HI0; have BK101 := n0_; have HK := n1_; have HB := n2_; have HI0 := n3_; clear n0_ n1_ n2_ n3_; (try clear hb); (try clear hk); (try clear hi); have hnb25 := NB101_0.out; have hnc25 := NB0_101.out; have hcz26_0 : w24.cell? ⟨gb101, 0, none⟩ = some (.string (⟨#[]⟩ : ByteArray)) := (blk_cell BK101.out 0).trans rfl; have hcz26_1 : w24.cell? ⟨gb101, 1, none⟩ = some (.int .i64 0) := (blk_cell BK101.out 1).trans rfl; have hcz26_2 : w24.cell? ⟨gb101, 2, none⟩ = some (.bool false) := (blk_cell BK101.out 2).trans rfl; have hfz26_0 := blk_frozen BK101.out 0; have hfz26_1 := blk_frozen BK101.out 1; have hfz26_2 := blk_frozen BK101.out 2))
  repeat (go_quiet (first | ((with_reducible refine gate_dst (N := 2) rfl ?_); refine box_event ?hg (N := 2) ?hd (cs := #[.string (⟨#[]⟩ : ByteArray), .int .i64 0, .bool false]) (t := 98) ?hr ?_; (case hd => rfl); (case hg => rfl); (case hr => first | (go_simp; done) | (go_simp; rfl)); intro gb101 hg w22 hbox hb; have n0_ := Aside0.mk (IsS138.below (qva3_) hb); have n1_ := Aside0.mk (KeepBut.trans (qva0_) (KeepBut.of_below hb g none) (.inl rfl)); have n2_ := Aside0.mk (below_step (qva4_) hb); have n3_ := Aside0.mk (hbox); have n4_ := Aside0.mk ((by rw [hg]; exact (keep_size (w := w) (g := g) (row := none) (qva0_)) : w.heap.size ≤ gb101)); have n5_ := Aside0.mk ((Nat.le_trans HW0.out (by rw [hg]; exact (keep_size (w := w) (g := g) (row := none) (qva0_)) : w.heap.size ≤ gb101) : w0.heap.size ≤ gb101)); have n6_ := Aside0.mk ((by rw [hg]; exact Nat.ne_of_lt (IsS138.lt (show IsS138 w0 _ g s0_0 s0_1 s0_2 s0_3 from by repeat (first | (with_reducible first | exact HI0.out | apply IsS138.alloc | apply IsS138.drewN | apply IsS138.drew | apply IsS138.set_0 | apply IsS138.set_1 | apply IsS138.set_2 | apply IsS138.set_3) | exact HI0.out))) : g ≠ gb101)); have n7_ := Aside0.mk ((by rw [hg]; exact Nat.ne_of_gt (IsS138.lt (show IsS138 w0 _ g s0_0 s0_1 s0_2 s0_3 from by repeat (first | (with_reducible first | exact HI0.out | apply IsS138.alloc | apply IsS138.drewN | apply IsS138.drew | apply IsS138.set_0 | apply IsS138.set_1 | apply IsS138.set_2 | apply IsS138.set_3) | exact HI0.out))) : gb101 ≠ g)); clear HI0; clear HK; clear HB; have HI0 := n0_; have HK := n1_; have HB := n2_; have BK101 := n3_; have GW101 := n4_; have GE101 := n5_; have NB0_101 := n6_; have NB101_0 := n7_; clear n0_ n1_ n2_ n3_ n4_ n5_ n6_ n7_; clear hb hbox hg; obtain ⟨HGz23, hgz23⟩ := HI0.out; have hcz23_0 := cellS138_0 HGz23; have hcz23_1 := cellS138_1 HGz23; have hcz23_2 := cellS138_2 HGz23; have hcz23_3 := cellS138_3 HGz23; have hfz23_0 := blk_frozen HGz23 0; have hfz23_1 := blk_frozen HGz23 1; have hfz23_2 := blk_frozen HGz23 2; have hfz23_3 := blk_frozen HGz23 3; clear HGz23 hgz23; have p3 : 0 ≤ (0 : Int) := (by omega); have q3 : 0 < s0_1.size := (by have : (0 : Int) < (s0_1.size : Int) := of_decide_eq_true (qva6_); omega); have hx3 : ∀ h : 0 < s0_1.size, ((s0_1[0]'h).toNat : Int) = bt s0_1 0 := bt_at s0_1 0; clear p3; have qi3 : (0 < (s0_1.size : Int)) = True := eq_true (of_decide_eq_true (qva6_)); replace q3 := eq_true q3) | (go_at_call 100; (with_reducible refine (path_reader_key.calls g s0_0 (s0_1.extract 1 s0_1.size) s0_2 s0_3 (wrap64 (s0_0 - (s0_1.size : Int))) t116 t117 t118 t119 t120 t121 t122 w0 _ ?side1 ?side2 (hG.below (qva1_)) A21.out).mono ?_); (case side1 => exact qva11_); (case side2 => exact qva12_); rintro e w24 ⟨rfl, hi, hb, hk⟩; have n0_ := Aside0.mk (KeepBut.blk hk (g' := gb101) (o := .cells #[.string (⟨#[]⟩ : ByteArray), .int .i64 0, .bool false] 98 (0, 0)) (qva5_) NB101_0.out (by simp)); have n1_ := Aside0.mk (KeepBut.trans (qva2_) hk (.inl rfl)); have n2_ := Aside0.mk (hb); have n3_ := Aside0.mk (hi); clear BK101; clear HK; clear HB; clear HI0; have BK101 := n0_; have HK := n1_; have HB := n2_; have HI0 := n3_; clear n0_ n1_ n2_ n3_; (try clear hb); (try clear hk); (try clear hi); have hnb25 := NB101_0.out; have hnc25 := NB0_101.out; have hcz26_0 : w24.cell? ⟨gb101, 0, none⟩ = some (.string (⟨#[]⟩ : ByteArray)) := (blk_cell BK101.out 0).trans rfl; have hcz26_1 : w24.cell? ⟨gb101, 1, none⟩ = some (.int .i64 0) := (blk_cell BK101.out 1).trans rfl; have hcz26_2 : w24.cell? ⟨gb101, 2, none⟩ = some (.bool false) := (blk_cell BK101.out 2).trans rfl; have hfz26_0 := blk_frozen BK101.out 0; have hfz26_1 := blk_frozen BK101.out 1; have hfz26_2 := blk_frozen BK101.out 2)); try go_wp2_with (first | ((with_reducible refine gate_dst (N := 2) rfl ?_); refine box_event ?hg (N := 2) ?hd (cs := #[.string (⟨#[]⟩ : ByteArray), .int .i64 0, .bool false]) (t := 98) ?hr ?_; (case hd => rfl); (case hg => rfl); (case hr => first | (go_simp; done) | (go_simp; rfl)); intro gb101 hg w22 hbox hb; have n0_ := Aside0.mk (IsS138.below (qva3_) hb); have n1_ := Aside0.mk (KeepBut.trans (qva0_) (KeepBut.of_below hb g none) (.inl rfl)); have n2_ := Aside0.mk (below_step (qva4_) hb); have n3_ := Aside0.mk (hbox); have n4_ := Aside0.mk ((by rw [hg]; exact (keep_size (w := w) (g := g) (row := none) (qva0_)) : w.heap.size ≤ gb101)); have n5_ := Aside0.mk ((Nat.le_trans HW0.out (by rw [hg]; exact (keep_size (w := w) (g := g) (row := none) (qva0_)) : w.heap.size ≤ gb101) : w0.heap.size ≤ gb101)); have n6_ := Aside0.mk ((by rw [hg]; exact Nat.ne_of_lt (IsS138.lt (show IsS138 w0 _ g s0_0 s0_1 s0_2 s0_3 from by repeat (first | (with_reducible first | exact HI0.out | apply IsS138.alloc | apply IsS138.drewN | apply IsS138.drew | apply IsS138.set_0 | apply IsS138.set_1 | apply IsS138.set_2 | apply IsS138.set_3) | exact HI0.out))) : g ≠ gb101)); have n7_ := Aside0.mk ((by rw [hg]; exact Nat.ne_of_gt (IsS138.lt (show IsS138 w0 _ g s0_0 s0_1 s0_2 s0_3 from by repeat (first | (with_reducible first | exact HI0.out | apply IsS138.alloc | apply IsS138.drewN | apply IsS138.drew | apply IsS138.set_0 | apply IsS138.set_1 | apply IsS138.set_2 | apply IsS138.set_3) | exact HI0.out))) : gb101 ≠ g)); clear HI0; clear HK; clear HB; have HI0 := n0_; have HK := n1_; have HB := n2_; have BK101 := n3_; have GW101 := n4_; have GE101 := n5_; have NB0_101 := n6_; have NB101_0 := n7_; clear n0_ n1_ n2_ n3_ n4_ n5_ n6_ n7_; clear hb hbox hg; obtain ⟨HGz23, hgz23⟩ := HI0.out; have hcz23_0 := cellS138_0 HGz23; have hcz23_1 := cellS138_1 HGz23; have hcz23_2 := cellS138_2 HGz23; have hcz23_3 := cellS138_3 HGz23; have hfz23_0 := blk_frozen HGz23 0; have hfz23_1 := blk_frozen HGz23 1; have hfz23_2 := blk_frozen HGz23 2; have hfz23_3 := blk_frozen HGz23 3; clear HGz23 hgz23; have p3 : 0 ≤ (0 : Int) := (by omega); have q3 : 0 < s0_1.size := (by have : (0 : Int) < (s0_1.size : Int) := of_decide_eq_true (qva6_); omega); have hx3 : ∀ h : 0 < s0_1.size, ((s0_1[0]'h).toNat : Int) = bt s0_1 0 := bt_at s0_1 0; clear p3; have qi3 : (0 < (s0_1.size : Int)) = True := eq_true (of_decide_eq_true (qva6_)); replace q3 := eq_true q3) | (go_at_call 100; (with_reducible refine (path_reader_key.calls g s0_0 (s0_1.extract 1 s0_1.size) s0_2 s0_3 (wrap64 (s0_0 - (s0_1.size : Int))) t116 t117 t118 t119 t120 t121 t122 w0 _ ?side1 ?side2 (hG.below (qva1_)) A21.out).mono ?_); (case side1 => exact qva11_); (case side2 => exact qva12_); rintro e w24 ⟨rfl, hi, hb, hk⟩; have n0_ := Aside0.mk (KeepBut.blk hk (g' := gb101) (o := .cells #[.string (⟨#[]⟩ : ByteArray), .int .i64 0, .bool false] 98 (0, 0)) (qva5_) NB101_0.out (by simp)); have n1_ := Aside0.mk (KeepBut.trans (qva2_) hk (.inl rfl)); have n2_ := Aside0.mk (hb); have n3_ := Aside0.mk (hi); clear BK101; clear HK; clear HB; clear HI0; have BK101 := n0_; have HK := n1_; have HB := n2_; have HI0 := n3_; clear n0_ n1_ n2_ n3_; (try clear hb); (try clear hk); (try clear hi); have hnb25 := NB101_0.out; have hnc25 := NB0_101.out; have hcz26_0 : w24.cell? ⟨gb101, 0, none⟩ = some (.string (⟨#[]⟩ : ByteArray)) := (blk_cell BK101.out 0).trans rfl; have hcz26_1 : w24.cell? ⟨gb101, 1, none⟩ = some (.int .i64 0) := (blk_cell BK101.out 1).trans rfl; have hcz26_2 : w24.cell? ⟨gb101, 2, none⟩ = some (.bool false) := (blk_cell BK101.out 2).trans rfl; have hfz26_0 := blk_frozen BK101.out 0; have hfz26_1 := blk_frozen BK101.out 1; have hfz26_2 := blk_frozen BK101.out 2)))
  refine bodyPost_ret (results_cell_row rfl _ _ gb101 98 #[.string t116, .int .i64 t117, .bool t118] (0, 0) _ rfl (by (with_reducible repeat (first | refine blk_drewN ?_ _ | refine blk_drew ?_ | refine blk_alloc ?_ _)); refine blk_put (cs := #[.string t116, .int .i64 t117, .bool false]) ?_ 2 _ rfl; (with_reducible repeat (first | refine blk_drewN ?_ _ | refine blk_drew ?_ | refine blk_alloc ?_ _)); refine blk_put (cs := #[.string t116, .int .i64 0, .bool false]) ?_ 1 _ rfl; (with_reducible repeat (first | refine blk_drewN ?_ _ | refine blk_drew ?_ | refine blk_alloc ?_ _)); refine blk_put (cs := #[.string (⟨#[]⟩ : ByteArray), .int .i64 0, .bool false]) ?_ 0 _ rfl; (with_reducible repeat (first | refine blk_drewN ?_ _ | refine blk_drew ?_ | refine blk_alloc ?_ _)); exact BK101.out) Tryz.underlying98 rfl (by kernel_rfl)) rfl ?_
  exact ⟨qva10_, qva8_, qva9_, qva2_⟩
 rw [if_neg c19] at H
 have c19b0 : ((bt s0_1 0) == 46) = false := beq_eq_false_iff_ne.mpr c19
 have c19b1 : ((bt s0_1 0) != 46) = true := bne_iff_ne.mpr c19
 replace H := Option.bind_eq_some_iff.mp H
 obtain ⟨⟨t123, t124, t125, t126⟩, A270, H⟩ := H
 replace H : ((path_reader_key.f t123 t124 t125 t126 (wrap64 (s0_0 - (s0_1.size : Int)))).bind fun bt127 => (some (bt127.1, bt127.2.1, bt127.2.2.1, bt127.2.2.2.1, bt127.2.2.2.2.1, bt127.2.2.2.2.2.1, bt127.2.2.2.2.2.2))) = some (r1, r2, r3, r4, r5, r6, r7) := H
 have A27 := Aside0.mk A270
 clear A270
 replace H := Option.bind_eq_some_iff.mp H
 obtain ⟨⟨t127, t128, t129, t130, t131, t132, t133⟩, A280, H⟩ := H
 replace H : (some (t127, t128, t129, t130, t131, t132, t133)) = some (r1, r2, r3, r4, r5, r6, r7) := H
 have A28 := Aside0.mk A280
 clear A280
 simp only [Option.some.injEq, Prod.mk.injEq] at H
 obtain ⟨rfl, rfl, rfl, rfl, rfl, rfl, rfl⟩ := H
 go_enter Tryz.func74, Tryz.ntmps74
 go_wp2_with (first | ((with_reducible refine gate_dst (N := 2) rfl ?_); refine box_event ?hg (N := 2) ?hd (cs := #[.string (⟨#[]⟩ : ByteArray), .int .i64 0, .bool false]) (t := 98) ?hr ?_; (case hd => rfl); (case hg => rfl); (case hr => first | (go_simp; done) | (go_simp; rfl)); intro gb101 hg w29 hbox hb; have n0_ := Aside0.mk (IsS138.below (qva3_) hb); have n1_ := Aside0.mk (KeepBut.trans (qva0_) (KeepBut.of_below hb g none) (.inl rfl)); have n2_ := Aside0.mk (below_step (qva4_) hb); have n3_ := Aside0.mk (hbox); have n4_ := Aside0.mk ((by rw [hg]; exact (keep_size (w := w) (g := g) (row := none) (qva0_)) : w.heap.size ≤ gb101)); have n5_ := Aside0.mk ((Nat.le_trans HW0.out (by rw [hg]; exact (keep_size (w := w) (g := g) (row := none) (qva0_)) : w.heap.size ≤ gb101) : w0.heap.size ≤ gb101)); have n6_ := Aside0.mk ((by rw [hg]; exact Nat.ne_of_lt (IsS138.lt (show IsS138 w0 _ g s0_0 s0_1 s0_2 s0_3 from by repeat (first | (with_reducible first | exact HI0.out | apply IsS138.alloc | apply IsS138.drewN | apply IsS138.drew | apply IsS138.set_0 | apply IsS138.set_1 | apply IsS138.set_2 | apply IsS138.set_3) | exact HI0.out))) : g ≠ gb101)); have n7_ := Aside0.mk ((by rw [hg]; exact Nat.ne_of_gt (IsS138.lt (show IsS138 w0 _ g s0_0 s0_1 s0_2 s0_3 from by repeat (first | (with_reducible first | exact HI0.out | apply IsS138.alloc | apply IsS138.drewN | apply IsS138.drew | apply IsS138.set_0 | apply IsS138.set_1 | apply IsS138.set_2 | apply IsS138.set_3) | exact HI0.out))) : gb101 ≠ g)); clear HI0; clear HK; clear HB; have HI0 := n0_; have HK := n1_; have HB := n2_; have BK101 := n3_; have GW101 := n4_; have GE101 := n5_; have NB0_101 := n6_; have NB101_0 := n7_; clear n0_ n1_ n2_ n3_ n4_ n5_ n6_ n7_; clear hb hbox hg; obtain ⟨HGz30, hgz30⟩ := HI0.out; have hcz30_0 := cellS138_0 HGz30; have hcz30_1 := cellS138_1 HGz30; have hcz30_2 := cellS138_2 HGz30; have hcz30_3 := cellS138_3 HGz30; have hfz30_0 := blk_frozen HGz30 0; have hfz30_1 := blk_frozen HGz30 1; have hfz30_2 := blk_frozen HGz30 2; have hfz30_3 := blk_frozen HGz30 3; clear HGz30 hgz30; have p3 : 0 ≤ (0 : Int) := (by omega); have q3 : 0 < s0_1.size := (by have : (0 : Int) < (s0_1.size : Int) := of_decide_eq_true (qva6_); omega); have hx3 : ∀ h : 0 < s0_1.size, ((s0_1[0]'h).toNat : Int) = bt s0_1 0 := bt_at s0_1 0; clear p3; have qi3 : (0 < (s0_1.size : Int)) = True := eq_true (of_decide_eq_true (qva6_)); replace q3 := eq_true q3) | (go_at_call 99; (with_reducible refine (path_reader_wrong.calls g s0_0 s0_1 s0_2 s0_3 0 t123 t124 t125 t126 w0 _ ?side1 ?side2 (hG.below (qva1_)) A27.out).mono ?_); (case side1 => exact qva11_); (case side2 => exact qva12_); rintro e w31 ⟨rfl, hi, hb, hk⟩; have n0_ := Aside0.mk (KeepBut.blk hk (g' := gb101) (o := .cells #[.string (⟨#[]⟩ : ByteArray), .int .i64 0, .bool false] 98 (0, 0)) (qva7_) NB101_0.out (by simp)); have n1_ := Aside0.mk (KeepBut.trans (qva2_) hk (.inl rfl)); have n2_ := Aside0.mk (hb); have n3_ := Aside0.mk (hi); clear BK101; clear HK; clear HB; clear HI0; have BK101 := n0_; have HK := n1_; have HB := n2_; have HI0 := n3_; clear n0_ n1_ n2_ n3_; (try clear hb); (try clear hk); (try clear hi)) | (go_at_call 100; (with_reducible refine (path_reader_key.calls g t123 t124 t125 t126 (wrap64 (s0_0 - (s0_1.size : Int))) t127 t128 t129 t130 t131 t132 t133 w0 _ ?side1 ?side2 (hG.below (qva1_)) A28.out).mono ?_); (case side1 => exact qva11_); (case side2 => exact qva12_); rintro e w32 ⟨rfl, hi, hb, hk⟩; have n0_ := Aside0.mk (KeepBut.blk hk (g' := gb101) (o := .cells #[.string (⟨#[]⟩ : ByteArray), .int .i64 0, .bool false] 98 (0, 0)) (qva7_) NB101_0.out (by simp)); have n1_ := Aside0.mk (KeepBut.trans (qva2_) hk (.inl rfl)); have n2_ := Aside0.mk (hb); have n3_ := Aside0.mk (hi); clear BK101; clear HK; clear HB; clear HI0; have BK101 := n0_; have HK := n1_; have HB := n2_; have HI0 := n3_; clear n0_ n1_ n2_ n3_; (try clear hb); (try clear hk); (try clear hi); have hnb33 := NB101_0.out; have hnc33 := NB0_101.out; have hcz34_0 : w32.cell? ⟨gb101, 0, none⟩ = some (.string (⟨#[]⟩ : ByteArray)) := (blk_cell BK101.out 0).trans rfl; have hcz34_1 : w32.cell? ⟨gb101, 1, none⟩ = some (.int .i64 0) := (blk_cell BK101.out 1).trans rfl; have hcz34_2 : w32.cell? ⟨gb101, 2, none⟩ = some (.bool false) := (blk_cell BK101.out 2).trans rfl; have hfz34_0 := blk_frozen BK101.out 0; have hfz34_1 := blk_frozen BK101.out 1; have hfz34_2 := blk_frozen BK101.out 2))
 repeat (go_quiet (first | ((with_reducible refine gate_dst (N := 2) rfl ?_); refine box_event ?hg (N := 2) ?hd (cs := #[.string (⟨#[]⟩ : ByteArray), .int .i64 0, .bool false]) (t := 98) ?hr ?_; (case hd => rfl); (case hg => rfl); (case hr => first | (go_simp; done) | (go_simp; rfl)); intro gb101 hg w29 hbox hb; have n0_ := Aside0.mk (IsS138.below (qva3_) hb); have n1_ := Aside0.mk (KeepBut.trans (qva0_) (KeepBut.of_below hb g none) (.inl rfl)); have n2_ := Aside0.mk (below_step (qva4_) hb); have n3_ := Aside0.mk (hbox); have n4_ := Aside0.mk ((by rw [hg]; exact (keep_size (w := w) (g := g) (row := none) (qva0_)) : w.heap.size ≤ gb101)); have n5_ := Aside0.mk ((Nat.le_trans HW0.out (by rw [hg]; exact (keep_size (w := w) (g := g) (row := none) (qva0_)) : w.heap.size ≤ gb101) : w0.heap.size ≤ gb101)); have n6_ := Aside0.mk ((by rw [hg]; exact Nat.ne_of_lt (IsS138.lt (show IsS138 w0 _ g s0_0 s0_1 s0_2 s0_3 from by repeat (first | (with_reducible first | exact HI0.out | apply IsS138.alloc | apply IsS138.drewN | apply IsS138.drew | apply IsS138.set_0 | apply IsS138.set_1 | apply IsS138.set_2 | apply IsS138.set_3) | exact HI0.out))) : g ≠ gb101)); have n7_ := Aside0.mk ((by rw [hg]; exact Nat.ne_of_gt (IsS138.lt (show IsS138 w0 _ g s0_0 s0_1 s0_2 s0_3 from by repeat (first | (with_reducible first | exact HI0.out | apply IsS138.alloc | apply IsS138.drewN | apply IsS138.drew | apply IsS138.set_0 | apply IsS138.set_1 | apply IsS138.set_2 | apply IsS138.set_3) | exact HI0.out))) : gb101 ≠ g)); clear HI0; clear HK; clear HB; have HI0 := n0_; have HK := n1_; have HB := n2_; have BK101 := n3_; have GW101 := n4_; have GE101 := n5_; have NB0_101 := n6_; have NB101_0 := n7_; clear n0_ n1_ n2_ n3_ n4_ n5_ n6_ n7_; clear hb hbox hg; obtain ⟨HGz30, hgz30⟩ := HI0.out; have hcz30_0 := cellS138_0 HGz30; have hcz30_1 := cellS138_1 HGz30; have hcz30_2 := cellS138_2 HGz30; have hcz30_3 := cellS138_3 HGz30; have hfz30_0 := blk_frozen HGz30 0; have hfz30_1 := blk_frozen HGz30 1; have hfz30_2 := blk_frozen HGz30 2; have hfz30_3 := blk_frozen HGz30 3; clear HGz30 hgz30; have p3 : 0 ≤ (0 : Int) := (by omega); have q3 : 0 < s0_1.size := (by have : (0 : Int) < (s0_1.size : Int) := of_decide_eq_true (qva6_); omega); have hx3 : ∀ h : 0 < s0_1.size, ((s0_1[0]'h).toNat : Int) = bt s0_1 0 := bt_at s0_1 0; clear p3; have qi3 : (0 < (s0_1.size : Int)) = True := eq_true (of_decide_eq_true (qva6_)); replace q3 := eq_true q3) | (go_at_call 99; (with_reducible refine (path_reader_wrong.calls g s0_0 s0_1 s0_2 s0_3 0 t123 t124 t125 t126 w0 _ ?side1 ?side2 (hG.below (qva1_)) A27.out).mono ?_); (case side1 => exact qva11_); (case side2 => exact qva12_); rintro e w31 ⟨rfl, hi, hb, hk⟩; have n0_ := Aside0.mk (KeepBut.blk hk (g' := gb101) (o := .cells #[.string (⟨#[]⟩ : ByteArray), .int .i64 0, .bool false] 98 (0, 0)) (qva7_) NB101_0.out (by simp)); have n1_ := Aside0.mk (KeepBut.trans (qva2_) hk (.inl rfl)); have n2_ := Aside0.mk (hb); have n3_ := Aside0.mk (hi); clear BK101; clear HK; clear HB; clear HI0; have BK101 := n0_; have HK := n1_; have HB := n2_; have HI0 := n3_; clear n0_ n1_ n2_ n3_; (try clear hb); (try clear hk); (try clear hi)) | (go_at_call 100; (with_reducible refine (path_reader_key.calls g t123 t124 t125 t126 (wrap64 (s0_0 - (s0_1.size : Int))) t127 t128 t129 t130 t131 t132 t133 w0 _ ?side1 ?side2 (hG.below (qva1_)) A28.out).mono ?_); (case side1 => exact qva11_); (case side2 => exact qva12_); rintro e w32 ⟨rfl, hi, hb, hk⟩; have n0_ := Aside0.mk (KeepBut.blk hk (g' := gb101) (o := .cells #[.string (⟨#[]⟩ : ByteArray), .int .i64 0, .bool false] 98 (0, 0)) (qva7_) NB101_0.out (by simp)); have n1_ := Aside0.mk (KeepBut.trans (qva2_) hk (.inl rfl)); have n2_ := Aside0.mk (hb); have n3_ := Aside0.mk (hi); clear BK101; clear HK; clear HB; clear HI0; have BK101 := n0_; have HK := n1_; have HB := n2_; have HI0 := n3_; clear n0_ n1_ n2_ n3_; (try clear hb); (try clear hk); (try clear hi); have hnb33 := NB101_0.out; have hnc33 := NB0_101.out; have hcz34_0 : w32.cell? ⟨gb101, 0, none⟩ = some (.string (⟨#[]⟩ : ByteArray)) := (blk_cell BK101.out 0).trans rfl; have hcz34_1 : w32.cell? ⟨gb101, 1, none⟩ = some (.int .i64 0) := (blk_cell BK101.out 1).trans rfl; have hcz34_2 : w32.cell? ⟨gb101, 2, none⟩ = some (.bool false) := (blk_cell BK101.out 2).trans rfl; have hfz34_0 := blk_frozen BK101.out 0; have hfz34_1 := blk_frozen BK101.out 1; have hfz34_2 := blk_frozen BK101.out 2)); try go_wp2_with (first | ((with_reducible refine gate_dst (N := 2) rfl ?_); refine box_event ?hg (N := 2) ?hd (cs := #[.string (⟨#[]⟩ : ByteArray), .int .i64 0, .bool false]) (t := 98) ?hr ?_; (case hd => rfl); (case hg => rfl); (case hr => first | (go_simp; done) | (go_simp; rfl)); intro gb101 hg w29 hbox hb; have n0_ := Aside0.mk (IsS138.below (qva3_) hb); have n1_ := Aside0.mk (KeepBut.trans (qva0_) (KeepBut.of_below hb g none) (.inl rfl)); have n2_ := Aside0.mk (below_step (qva4_) hb); have n3_ := Aside0.mk (hbox); have n4_ := Aside0.mk ((by rw [hg]; exact (keep_size (w := w) (g := g) (row := none) (qva0_)) : w.heap.size ≤ gb101)); have n5_ := Aside0.mk ((Nat.le_trans HW0.out (by rw [hg]; exact (keep_size (w := w) (g := g) (row := none) (qva0_)) : w.heap.size ≤ gb101) : w0.heap.size ≤ gb101)); have n6_ := Aside0.mk ((by rw [hg]; exact Nat.ne_of_lt (IsS138.lt (show IsS138 w0 _ g s0_0 s0_1 s0_2 s0_3 from by repeat (first | (with_reducible first | exact HI0.out | apply IsS138.alloc | apply IsS138.drewN | apply IsS138.drew | apply IsS138.set_0 | apply IsS138.set_1 | apply IsS138.set_2 | apply IsS138.set_3) | exact HI0.out))) : g ≠ gb101)); have n7_ := Aside0.mk ((by rw [hg]; exact Nat.ne_of_gt (IsS138.lt (show IsS138 w0 _ g s0_0 s0_1 s0_2 s0_3 from by repeat (first | (with_reducible first | exact HI0.out | apply IsS138.alloc | apply IsS138.drewN | apply IsS138.drew | apply IsS138.set_0 | apply IsS138.set_1 | apply IsS138.set_2 | apply IsS138.set_3) | exact HI0.out))) : gb101 ≠ g)); clear HI0; clear HK; clear HB; have HI0 := n0_; have HK := n1_; have HB := n2_; have BK101 := n3_; have GW101 := n4_; have GE101 := n5_; have NB0_101 := n6_; have NB101_0 := n7_; clear n0_ n1_ n2_ n3_ n4_ n5_ n6_ n7_; clear hb hbox hg; obtain ⟨HGz30, hgz30⟩ := HI0.out; have hcz30_0 := cellS138_0 HGz30; have hcz30_1 := cellS138_1 HGz30; have hcz30_2 := cellS138_2 HGz30; have hcz30_3 := cellS138_3 HGz30; have hfz30_0 := blk_frozen HGz30 0; have hfz30_1 := blk_frozen HGz30 1; have hfz30_2 := blk_frozen HGz30 2; have hfz30_3 := blk_frozen HGz30 3; clear HGz30 hgz30; have p3 : 0 ≤ (0 : Int) := (by omega); have q3 : 0 < s0_1.size := (by have : (0 : Int) < (s0_1.size : Int) := of_decide_eq_true (qva6_); omega); have hx3 : ∀ h : 0 < s0_1.size, ((s0_1[0]'h).toNat : Int) = bt s0_1 0 := bt_at s0_1 0; clear p3; have qi3 : (0 < (s0_1.size : Int)) = True := eq_true (of_decide_eq_true (qva6_)); replace q3 := eq_true q3) | (go_at_call 99; (with_reducible refine (path_reader_wrong.calls g s0_0 s0_1 s0_2 s0_3 0 t123 t124 t125 t126 w0 _ ?side1 ?side2 (hG.below (qva1_)) A27.out).mono ?_); (case side1 => exact qva11_); (case side2 => exact qva12_); rintro e w31 ⟨rfl, hi, hb, hk⟩; have n0_ := Aside0.mk (KeepBut.blk hk (g' := gb101) (o := .cells #[.string (⟨#[]⟩ : ByteArray), .int .i64 0, .bool false] 98 (0, 0)) (qva7_) NB101_0.out (by simp)); have n1_ := Aside0.mk (KeepBut.trans (qva2_) hk (.inl rfl)); have n2_ := Aside0.mk (hb); have n3_ := Aside0.mk (hi); clear BK101; clear HK; clear HB; clear HI0; have BK101 := n0_; have HK := n1_; have HB := n2_; have HI0 := n3_; clear n0_ n1_ n2_ n3_; (try clear hb); (try clear hk); (try clear hi)) | (go_at_call 100; (with_reducible refine (path_reader_key.calls g t123 t124 t125 t126 (wrap64 (s0_0 - (s0_1.size : Int))) t127 t128 t129 t130 t131 t132 t133 w0 _ ?side1 ?side2 (hG.below (qva1_)) A28.out).mono ?_); (case side1 => exact qva11_); (case side2 => exact qva12_); rintro e w32 ⟨rfl, hi, hb, hk⟩; have n0_ := Aside0.mk (KeepBut.blk hk (g' := gb101) (o := .cells #[.string (⟨#[]⟩ : ByteArray), .int .i64 0, .bool false] 98 (0, 0)) (qva7_) NB101_0.out (by simp)); have n1_ := Aside0.mk (KeepBut.trans (qva2_) hk (.inl rfl)); have n2_ := Aside0.mk (hb); have n3_ := Aside0.mk (hi); clear BK101; clear HK; clear HB; clear HI0; have BK101 := n0_; have HK := n1_; have HB := n2_; have HI0 := n3_; clear n0_ n1_ n2_ n3_; (try clear hb); (try clear hk); (try clear hi); have hnb33 := NB101_0.out; have hnc33 := NB0_101.out; have hcz34_0 : w32.cell? ⟨gb101, 0, none⟩ = some (.string (⟨#[]⟩ : ByteArray)) := (blk_cell BK101.out 0).trans rfl; have hcz34_1 : w32.cell? ⟨gb101, 1, none⟩ = some (.int .i64 0) := (blk_cell BK101.out 1).trans rfl; have hcz34_2 : w32.cell? ⟨gb101, 2, none⟩ = some (.bool false) := (blk_cell BK101.out 2).trans rfl; have hfz34_0 := blk_frozen BK101.out 0; have hfz34_1 := blk_frozen BK101.out 1; have hfz34_2 := blk_frozen BK101.out 2)))
 refine bodyPost_ret (results_cell_row rfl _ _ gb101 98 #[.string t127, .int .i64 t128, .bool t129] (0, 0) _ rfl (by (with_reducible repeat (first | refine blk_drewN ?_ _ | refine blk_drew ?_ | refine blk_alloc ?_ _)); refine blk_put (cs := #[.string t127, .int .i64 t128, .bool false]) ?_ 2 _ rfl; (with_reducible repeat (first | refine blk_drewN ?_ _ | refine blk_drew ?_ | refine blk_alloc ?_ _)); refine blk_put (cs := #[.string t127, .int .i64 0, .bool false]) ?_ 1 _ rfl; (with_reducible repeat (first | refine blk_drewN ?_ _ | refine blk_drew ?_ | refine blk_alloc ?_ _)); refine blk_put (cs := #[.string (⟨#[]⟩ : ByteArray), .int .i64 0, .bool false]) ?_ 0 _ rfl; (with_reducible repeat (first | refine blk_drewN ?_ _ | refine blk_drew ?_ | refine blk_alloc ?_ _)); exact BK101.out) Tryz.underlying98 rfl (by kernel_rfl)) rfl ?_
 exact ⟨qva10_, qva8_, qva9_, qva2_⟩
end Go.Proofs.YtiooacmplmcphaaGreatDoor.PX
namespace Go.Proofs.YtiooacmplmcphaaGreatDoor.Plug
open RowKit YtiooacmplmcphaaGreatDoor YtiooacmplmcphaaGreatDoor.PX YtiooacmplmcphaaGreatDoor.Utf YtiooacmplmcphaaGreatDoorW.PrintWords YtiooacmplmcphaaGreatDoorW.PrintLast YtiooacmplmcphaaGreatDoorW.PrintMore
def parseL : Nat → List S98 → Int → ByteArray → Option (List S98 × Int × Int)
 | 0, _, _, _ => none
 | k + 1, l, a, b => if b.data.toList = [] then some (l, 0, 0) else if l.length = 64 then some ([], 5, wrap64 (a - (b.size : Int))) else
  (path_reader_step.f a b 0 0).bind fun r => if (r.2.2.2.2.2.1 == 0 && (r.2.2.2.2.2.2 == 0)) = true then parseL k (l ++ [⟨r.1, r.2.1, r.2.2.1⟩]) r.2.2.2.1 r.2.2.2.2.1 else some ([], r.2.2.2.2.2.1, r.2.2.2.2.2.2)
def path_Parse.f (a0 : ByteArray) : Option (List S98 × Int × Int) := if a0.size ≤ 1099511627775 then parseL 66 [] (a0.size : Int) a0 else none
structure PrAt (w : World) (g B : Nat) (a : Int) (b : ByteArray) (c d : Int) (v : Value) (l : List S98) (W : World) : Prop where
 is : IsS138 w W g a b c d
 bel : Below w.heap.size w W
 res : W.heap[B]? = some (.cells #[.int .i64 0, .int .i64 0] 95 (0, 0))
 ne : B ≠ g
 own : Kd.R k98 98 W w.heap.size (fun k => k ≠ g ∧ k ≠ B) v l
theorem PrAt.below {w : World} {g B : Nat} {a : Int} {b : ByteArray} {c d : Int} {v : Value} {l : List S98} {W W' : World} (h : PrAt w g B a b c d v l W) (hb : Below W.heap.size W W') : PrAt w g B a b c d v l W' :=
  ⟨h.is.below hb, h.bel.trans (hb.mono h.bel.size), (hb.block B (blk_lt h.res)).trans h.res, h.ne, Kd.R_below h.own hb⟩
theorem PrAt.drew {w : World} {g B : Nat} {a : Int} {b : ByteArray} {c d : Int} {v : Value} {l : List S98} {W : World} (h : PrAt w g B a b c d v l W) : PrAt w g B a b c d v l W.drew := h.below (Below.drew (Below.refl _ _))
theorem PrAt.keep {w : World} {g B : Nat} {a : Int} {b : ByteArray} {c d : Int} {v : Value} {l : List S98} {W W' : World} (h : PrAt w g B a b c d v l W) {a' : Int} {b' : ByteArray} {c' d' : Int} (hi : IsS138 w W' g a' b' c' d') (hb : Below w.heap.size w W') (hk : KeepBut W W' g none) : PrAt w g B a' b' c' d' v l W' :=
  ⟨hi, hb, hk.blk h.res h.ne (by simp), h.ne, Kd.R_keep h.own hk (fun _ h => h.1)⟩
theorem PrAt.grow {w : World} {g B : Nat} {a : Int} {b : ByteArray} {c d : Int} {v : Value} {l : List S98} {W W' : World} (h : PrAt w g B a b c d v l W) {v' : Value} {l' : List S98} (ho : Kd.R k98 98 W' w.heap.size (fun k => k ≠ g ∧ k ≠ B) v' l') (hb : Below w.heap.size w W') (hg : W.grownBy W' v.ownBlock) : PrAt w g B a b c d v' l' W' :=
  ⟨h.is.grown hg (fun e => (h.own.1 _ e.symm).1 rfl), hb, blk_grown h.res hg (fun e => (h.own.1 _ e.symm).2 rfl), h.ne, ho⟩
theorem PrAt.ret {w : World} {g B : Nat} {a : Int} {b : ByteArray} {c d : Int} {v : Value} {l : List S98} {W : World} (h : PrAt w g B a b c d v l W) (hB : w.heap.size ≤ B) (y0 y1 : Value) :
  ((W.setCell ⟨B, 0, none⟩ y0).setCell ⟨B, 1, none⟩ y1).heap[B]? = some (.cells #[y0, y1] 95 (0, 0)) ∧ Below w.heap.size w ((W.setCell ⟨B, 0, none⟩ y0).setCell ⟨B, 1, none⟩ y1) ∧ Kd.R k98 98 ((W.setCell ⟨B, 0, none⟩ y0).setCell ⟨B, 1, none⟩ y1) w.heap.size (fun _ => True) v l :=
 ⟨by simpa using blk_set (blk_set h.res 0 y0) 1 y1, (h.bel.setCell hB _).setCell hB _, Kd.R_mono (Kd.R_far (p := ⟨B, 1, none⟩) (Kd.R_far (p := ⟨B, 0, none⟩) h.own (fun _ hk => hk.2) y0) (fun _ hk => hk.2) y1) (fun _ _ => trivial)⟩
attribute [local go_sem high] eqA95
set_option maxHeartbeats 1600000 in
set_option maxRecDepth 100000 in
theorem path_Parse.calls (a0 : ByteArray) (r1 : List S98) (r2 r3 : Int) (w : World) (hG : Glob.G w) (h : path_Parse.f a0 = some (r1, r2, r3)) :
    Calls Tryz.prog 47 #[.string a0] w fun e w' => ∃ v : Value, e = .returned (.tuple #[v, .agg #[.int .i64 r2, .int .i64 r3]]) ∧ Kd.R k98 98 w' w.heap.size (fun _ => True) v r1 ∧ Below w.heap.size w w' := by
  unfold path_Parse.f at h
  by_cases hs : a0.size ≤ 1099511627775
  case neg => rw [if_neg hs] at h; cases h
  rw [if_pos hs] at h
  have hB1 : Below w.heap.size w (w.alloc (.cells #[.int .i64 0, .int .i64 0] 95)) := (Below.refl _ _).alloc (Nat.le_refl _) _
  have hS1 : (w.alloc (.cells #[.int .i64 0, .int .i64 0] 95)).heap.size = w.heap.size + 1 := by simp
  have hP : PrAt w (w.heap.size + 1) w.heap.size (a0.size : Int) a0 0 0 (.slice none 0 0) [] ((w.alloc (.cells #[.int .i64 0, .int .i64 0] 95)).alloc (.cells #[.int .i64 (a0.size : Int), .string a0, .int .i64 0, .int .i64 0] 138)) := by
    have hn := IsS138.new w (w.alloc (.cells #[.int .i64 0, .int .i64 0] 95)) (a0.size : Int) a0 0 0 hB1
    rw [hS1] at hn
    exact ⟨hn, hB1.alloc (by omega) _, (blk_alloc (heap_alloc_new w _) _), by omega, Kd.R_nil _ _ _ _ _⟩
  have H' := Lib.hid h
  have HP := Lib.hid hP
  have HG := Lib.hid hG
  clear h hP hB1 hG
  go_enter Tryz.func47, Tryz.ntmps47
  go_wp2
  go_loopg [5] 66 (fun kq v5 w' => ∃ (l : List S98) (a : Int) (b : ByteArray), Hid (parseL kq l a b = some (r1, r2, r3)) ∧ Hid (kq ≤ 66) ∧ Hid (l.length + kq = 66) ∧ Hid (PrAt w (w.heap.size + 1) w.heap.size a b 0 0 v5 l w'))
  case atStart => exact ⟨[], _, _, H', Lib.hid (Nat.le_refl _), Lib.hid rfl, HP⟩
  case round =>
    clear H' HP
    obtain ⟨l, a, b, HA, HK, HL, HP⟩ := hrel
    cases gk with
    | zero => exact absurd HA.out (by simp [parseL])
    | succ k1 =>
      have h := HA.out
      rw [parseL] at h
      have c0 := cellS138_0 HP.out.is.1
      have c1 := cellS138_1 HP.out.is.1
      have c2 := cellS138_2 HP.out.is.1
      have c3 := cellS138_3 HP.out.is.1
      by_cases hb : b.data.toList = []
      · rw [if_pos hb] at h
        obtain ⟨rfl, rfl, rfl⟩ := by simpa only [Option.some.injEq, Prod.mk.injEq] using h
        have k0 : b.toList.isEmpty = true := by rw [Lib.toList_data, hb]; rfl
        have p0 := (blk_cell HP.out.res 0).trans rfl
        have p1 := (blk_cell HP.out.res 1).trans rfl
        have q0 := blk_frozen HP.out.res 0
        have q1 := blk_frozen HP.out.res 1
        clear h hb HA
        go_wp2
        obtain ⟨z0, z1, z2⟩ := HP.out.ret (Nat.le_refl _) (.int .i64 0) (.int .i64 0)
        refine bodyPost_ret (results_tc rfl _ _ w.heap.size 95 #[.int .i64 0, .int .i64 0] (0, 0) _ rfl z0 Tryz.underlying95 rfl (by kernel_rfl)) rfl ?_
        exact ⟨_, rfl, z2, z1⟩
      · rw [if_neg hb] at h
        have k0 : b.toList.isEmpty = false := by rw [Lib.toList_data, List.isEmpty_eq_false_iff]; exact hb
        clear hb
        obtain ⟨Ao, co, eo⟩ := Kd.R_slice HP.out.own
        subst eo
        by_cases hl : l.length = 64
        · rw [if_pos hl] at h
          obtain ⟨rfl, rfl, hx⟩ : r1 = [] ∧ r2 = 5 ∧ wrap64 (a - (b.size : Int)) = r3 := by
            simp only [Option.some.injEq, Prod.mk.injEq] at h; exact ⟨h.1.symm, h.2.1.symm, h.2.2⟩
          have hl2 : ((l.length : Int) == 64) = true := by rw [hl]; rfl
          have e1 : IntKind.i64.wrap (a - (b.size : Int)) = r3 := (i64_w _).trans hx
          have HQ := Lib.hid (show path_reader_fail.f a b 0 0 5 r3 = some (a, b, 5, r3) from rfl)
          have HD := Lib.hid HP.out.drew
          have HLL := Lib.hid hl
          have hyz : ((5 : Int) == 0 && (r3 == 0)) = false := rfl
          clear h hx hl HA
          go_wp2_with (fail)
          go_region_held3 (fun W' => W'.cell? ⟨w.heap.size + 1, 0, none⟩ = some (.int .i64 a) ∧ W'.cell? ⟨w.heap.size + 1, 1, none⟩ = some (.string b))
            (first | exact ⟨c0, c1⟩ | exact ⟨cellS138_0 i6.1, cellS138_1 i6.1⟩)
            ((go_at_call 73; with_reducible refine (path_reader_fail.calls (w.heap.size + 1) a b 0 0 5 r3 a b 5 r3 w _ HD.out.is HD.out.bel HG.out HQ.out).mono ?_; rintro e w6 ⟨rfl, i6, b6, k6⟩))
          have HP6 := Lib.hid (HD.out.keep i6 b6 k6)
          clear c0 c1 c2 c3 i6 b6 k6
          have c2 := cellS138_2 HP6.out.is.1
          have c3 := cellS138_3 HP6.out.is.1
          have p0 := (blk_cell HP6.out.res 0).trans rfl
          have p1 := (blk_cell HP6.out.res 1).trans rfl
          have q0 := blk_frozen HP6.out.res 0
          have q1 := blk_frozen HP6.out.res 1
          go_wp2
          go_region
          all_goals
            go_wp2
            obtain ⟨z0, z1, z2⟩ := HP6.out.drew.ret (Nat.le_refl _) (.int .i64 5) (.int .i64 r3)
            refine bodyPost_ret (results_tc rfl _ _ w.heap.size 95 #[.int .i64 5, .int .i64 r3] (0, 0) _ rfl z0 Tryz.underlying95 rfl (by kernel_rfl)) rfl ?_
            exact ⟨_, rfl, Kd.R_nil _ _ _ _ _, z1⟩
        · rw [if_neg hl] at h
          have hl2 : ((l.length : Int) == 64) = false := by rw [beq_eq_false_iff_ne]; omega
          obtain ⟨r, hr, h⟩ := Option.bind_eq_some_iff.1 h
          obtain ⟨s1, s2, s3, s4, s5, s6, s7⟩ := r
          dsimp only at h
          have HQ := Lib.hid hr
          have HLL := Lib.hid hl
          have HH := Lib.hid h
          have hk2 := HL.out
          clear hr hl h HA c2 c3
          by_cases hz : (s6 == 0 && (s7 == 0)) = true
          · have HN := HH.out
            rw [if_pos hz] at HN
            have HN := Lib.hid HN
            have hz2 : s6 = 0 ∧ s7 = 0 := by rw [Bool.and_eq_true, beq_iff_eq, beq_iff_eq] at hz; exact hz
            obtain ⟨rfl, rfl⟩ := hz2
            clear HH hz
            go_wp2_with (first | (go_at_call 74; with_reducible refine (path_reader_step.calls (w.heap.size + 1) a b 0 0 s1 s2 s3 s4 s5 _ _ w _ HP.out.is HP.out.bel HG.out HQ.out).mono ?_; rintro e w6 ⟨rfl, i6, b6, k6⟩; have HP6 := Lib.hid (HP.out.keep i6 b6 k6); clear i6 b6 k6) |
              (at_builtin; refine Kd.R_append k98 (w0 := w) w.heap.size rfl (.tmp 32) (.tmp 35) 50 98 (.agg #[(.string ⟨#[]⟩), (.int .i64 0), (.bool false)]) 32 rfl Tryz.underlying50 info98 rfl (by decide) (by omega) _ l (⟨s1, s2, s3⟩ : S98) [.string s1, .int .i64 s2, .bool s3] (fun k => k ≠ w.heap.size + 1 ∧ k ≠ w.heap.size) (fun _ => False) rfl (by first | (go_simp; done) | (go_simp; rfl)) (k98_mkM _ _ _ (⟨s1, s2, s3⟩ : S98)) (fun _ hk => hk.elim) (fun k hk => by have := HP6.out.is.lt; omega) HP6.out.own HP6.out.bel HP6.out.bel.size (by omega) ?_; intro v7 w7 ho hb hg hat; have HP7 := Lib.hid (HP6.out.grow ho hb hg); clear ho hb hg hat; have c2 := cellS138_2 HP7.out.is.1; have c3 := cellS138_3 HP7.out.is.1; have p0 := (blk_cell HP7.out.res 0).trans rfl; have p1 := (blk_cell HP7.out.res 1).trans rfl; have q0 := blk_frozen HP7.out.res 0; have q1 := blk_frozen HP7.out.res 1))
            go_roundg k1
            case measure => omega
            case rel => exact ⟨_, _, _, HN, Lib.hid (by have := HK.out; omega), Lib.hid (by rw [List.length_append, List.length_singleton]; omega), HP7⟩
          · have HN := HH.out
            rw [if_neg hz] at HN
            obtain ⟨rfl, rfl, rfl⟩ := by simpa only [Option.some.injEq, Prod.mk.injEq] using HN
            have hz3 : (s6 == 0 && (s7 == 0)) = false := Bool.eq_false_iff.2 hz
            clear HH HN hz
            go_wp2_with (first | (go_at_call 74; with_reducible refine (path_reader_step.calls (w.heap.size + 1) a b 0 0 s1 s2 s3 s4 s5 _ _ w _ HP.out.is HP.out.bel HG.out HQ.out).mono ?_; rintro e w6 ⟨rfl, i6, b6, k6⟩; have HP6 := Lib.hid (HP.out.keep i6 b6 k6); clear i6 b6 k6) |
              (at_builtin; refine Kd.R_append k98 (w0 := w) w.heap.size rfl (.tmp 32) (.tmp 35) 50 98 (.agg #[(.string ⟨#[]⟩), (.int .i64 0), (.bool false)]) 32 rfl Tryz.underlying50 info98 rfl (by decide) (by omega) _ l (⟨s1, s2, s3⟩ : S98) [.string s1, .int .i64 s2, .bool s3] (fun k => k ≠ w.heap.size + 1 ∧ k ≠ w.heap.size) (fun _ => False) rfl (by first | (go_simp; done) | (go_simp; rfl)) (k98_mkM _ _ _ (⟨s1, s2, s3⟩ : S98)) (fun _ hk => hk.elim) (fun k hk => by have := HP6.out.is.lt; omega) HP6.out.own HP6.out.bel HP6.out.bel.size (by omega) ?_; intro v7 w7 ho hb hg hat; have HP7 := Lib.hid (HP6.out.grow ho hb hg); clear ho hb hg hat; have c2 := cellS138_2 HP7.out.is.1; have c3 := cellS138_3 HP7.out.is.1; have p0 := (blk_cell HP7.out.res 0).trans rfl; have p1 := (blk_cell HP7.out.res 1).trans rfl; have q0 := blk_frozen HP7.out.res 0; have q1 := blk_frozen HP7.out.res 1))
            go_region
            all_goals
              go_wp2
              obtain ⟨z0, z1, z2⟩ := HP7.out.drew.ret (Nat.le_refl _) (.int .i64 s6) (.int .i64 s7)
              refine bodyPost_ret (results_tc rfl _ _ w.heap.size 95 #[.int .i64 s6, .int .i64 s7] (0, 0) _ rfl z0 Tryz.underlying95 rfl (by kernel_rfl)) rfl ?_
              exact ⟨_, rfl, Kd.R_nil _ _ _ _ _, z1⟩
end Go.Proofs.YtiooacmplmcphaaGreatDoor.Plug
namespace Go.Proofs.YtiooacmplmcphaaGreatDoor.PX
open RowKit YtiooacmplmcphaaGreatDoorW.PrintWords YtiooacmplmcphaaGreatDoorW.PrintLast YtiooacmplmcphaaGreatDoorW.PrintMore YtiooacmplmcphaaGreatDoor YtiooacmplmcphaaGreatDoor.Plug
attribute [local go_sem] max2_int min2_int max_two min_two max_three min_three max_four min_four   -- for this text's walks alone
set_option linter.unusedVariables false
set_option linter.unusedSimpArgs false
attribute [local go_sem high] eqA95
def grommetlaw16_alive.f  : Option (Bool) := (path_Parse.f (⟨#[97, 46, 98, 91, 48, 93, 46, 34, 120, 32, 121, 34]⟩ : ByteArray)).bind fun bt101 => ((path_Format.f bt101.1).bind fun bt107 => (if (bt101.2.1 == 0 && (bt101.2.2 == 0)) = true then (if (bt101.1.length : Int) = 4 then (if 2 < (bt101.1.length : Int) then (if (rd_T98 bt101.1 2).f2 = true then (if 3 < (bt101.1.length : Int) then (if ((rd_T98 bt101.1 3).f0).toList = ([120, 32, 121] : List UInt8) then (if bt107.2 = 0 then (some (bt107.1.toList == ([97, 46, 98, 91, 48, 93, 46, 34, 120, 32, 121, 34] : List UInt8))) else (some false)) else (some false)) else (none)) else (some false)) else (none)) else (some false)) else (some false)))
theorem qea0_ {P : Prop} (h_ : P := by repeat (first | (with_reducible first | exact HB.out | apply below_alloc | apply pw_below_drewN | apply below_drew1) | exact HB.out)) : P := h_
theorem qea1_ {P : Prop} (h_ : P := by (with_reducible repeat (first | apply Kd.R_alloc | apply Kd.R_drewN | apply Kd.R_drew)); exact (Kd.R_mono (Kd.R_far (p := ⟨gb106, 1, none⟩) (Kd.R_far (p := ⟨gb106, 0, none⟩) (Kd.R_types HO103.out BK106.out (by decide)) (fun _ hk => hk.2) (.int .i64 t104)) (fun _ hk => hk.2) (.int .i64 t105)) (fun _ h_ => h_.1))) : P := h_
theorem qea2_ {P : Prop} (h_ : P := by first | ((repeat (first | (with_reducible first | exact HB.out | apply below_alloc | apply pw_below_drewN | apply below_drew1 | (refine Glob.below_set ?_ (by assumption) _ _ _)) | exact HB.out)); done) | (refine Drawn0.below ?_; repeat (first | exact Drawn0.refl _ | assumption | apply Drawn0.step))) : P := h_
theorem qea3_ {P : Prop} (h_ : P := by (with_reducible repeat (first | refine blk_drewN ?_ _ | refine blk_drew ?_ | refine blk_alloc ?_ _)); refine blk_put (cs := #[.int .i64 t104, .int .i64 0]) ?_ 1 _ rfl; (with_reducible repeat (first | refine blk_drewN ?_ _ | refine blk_drew ?_ | refine blk_alloc ?_ _)); refine blk_put (cs := #[.int .i64 0, .int .i64 0]) ?_ 0 _ rfl; (with_reducible repeat (first | refine blk_drewN ?_ _ | refine blk_drew ?_ | refine blk_alloc ?_ _)); exact BK106.out) : P := h_
theorem qea4_ {P : Prop} (h_ : P := by repeat (first | (with_reducible first | exact HB.out | apply below_alloc | apply pw_below_drewN | apply below_drew1 | refine below_set ?_ GE106.out) | exact HB.out)) : P := h_
theorem qea5_ {P : Prop} (h_ : P := by (try simp only [List.map_toArray, List.map_cons, List.map_nil]); first | done | rfl | (simp only [List.length_drop, List.length_take]; rfl)) : P := h_
theorem qea6_ {P : Prop} (h_ : P := by (with_reducible repeat (first | apply Kd.R_alloc | apply Kd.R_drewN | apply Kd.R_drew)); exact HO103.out) : P := h_
theorem qea7_ {P : Prop} (h_ : P := by first | rfl | (simp [errW_none, errW_some] <;> rfl) | (simp [*, errW_none, errW_some] <;> rfl)) : P := h_
theorem qea8_ {P : Prop} (h_ : P := by first | (with_reducible assumption) | assumption) : P := h_
theorem qea9_ {P : Prop} (h_ : P := by exact (Kd.R_reads' HO103.out).2.1) : P := h_
set_option maxHeartbeats 8000000 in
set_option maxRecDepth 100000 in
theorem grommetlaw16_alive.calls  (r : Bool) (w : World) (hG : Glob.G w) (h : grommetlaw16_alive.f  = some r) :
  Calls Tryz.prog 24 #[] w fun e w' => e = .returned (.bool r) ∧ Below w.heap.size w w' := by
 have hu95 := Tryz.underlying95
 have HB := Aside0.mk (Below.refl w.heap.size w)
 have H : ((path_Parse.f (⟨#[97, 46, 98, 91, 48, 93, 46, 34, 120, 32, 121, 34]⟩ : ByteArray)).bind fun bt101 => ((path_Format.f bt101.1).bind fun bt107 => (if (bt101.2.1 == 0 && (bt101.2.2 == 0)) = true then (if (bt101.1.length : Int) = 4 then (if 2 < (bt101.1.length : Int) then (if (rd_T98 bt101.1 2).f2 = true then (if 3 < (bt101.1.length : Int) then (if ((rd_T98 bt101.1 3).f0).toList = ([120, 32, 121] : List UInt8) then (if bt107.2 = 0 then (some (bt107.1.toList == ([97, 46, 98, 91, 48, 93, 46, 34, 120, 32, 121, 34] : List UInt8))) else (some false)) else (some false)) else (none)) else (some false)) else (none)) else (some false)) else (some false)))) = some r := h
 clear h
 replace H := Option.bind_eq_some_iff.mp H
 obtain ⟨⟨t101, t104, t105⟩, A10, H⟩ := H
 replace H : ((path_Format.f t101).bind fun bt107 => (if (t104 == 0 && (t105 == 0)) = true then (if (t101.length : Int) = 4 then (if 2 < (t101.length : Int) then (if (rd_T98 t101 2).f2 = true then (if 3 < (t101.length : Int) then (if ((rd_T98 t101 3).f0).toList = ([120, 32, 121] : List UInt8) then (if bt107.2 = 0 then (some (bt107.1.toList == ([97, 46, 98, 91, 48, 93, 46, 34, 120, 32, 121, 34] : List UInt8))) else (some false)) else (some false)) else (none)) else (some false)) else (none)) else (some false)) else (some false))) = some r := H
 have A1 := Aside0.mk A10
 clear A10
 replace H := Option.bind_eq_some_iff.mp H
 obtain ⟨⟨t107, t108⟩, A20, H⟩ := H
 replace H : (if (t104 == 0 && (t105 == 0)) = true then (if (t101.length : Int) = 4 then (if 2 < (t101.length : Int) then (if (rd_T98 t101 2).f2 = true then (if 3 < (t101.length : Int) then (if ((rd_T98 t101 3).f0).toList = ([120, 32, 121] : List UInt8) then (if t108 = 0 then (some (t107.toList == ([97, 46, 98, 91, 48, 93, 46, 34, 120, 32, 121, 34] : List UInt8))) else (some false)) else (some false)) else (none)) else (some false)) else (none)) else (some false)) else (some false)) = some r := H
 have A2 := Aside0.mk A20
 clear A20
 by_cases c3 : (t104 == 0 && (t105 == 0)) = true
 rotate_left
 ·
  rw [if_neg c3] at H
  have c3b0 : (t104 == 0 && (t105 == 0)) = false := by simpa using c3
  (try (have c3b1 : decide (t104 = 0 && (t105 == 0)) = false := by simpa using c3))
  (try (have c3b2 : (t104 == 0 && (t105 == 0)) = false := by simpa using c3))
  (try (have c3b3 : ¬ (t104 = 0 && (t105 == 0)) := by simpa using c3))
  clear c3
  obtain rfl := Option.some.inj H
  go_enter Tryz.func24, Tryz.ntmps24
  go_wp2_with (first | ((with_reducible refine gate_callee (f := 47) rfl ?_); refine goesL_ (some 6) rfl rfl Tryz.func47 (by kernel_rfl) rfl #[.string (⟨#[97, 46, 98, 91, 48, 93, 46, 34, 120, 32, 121, 34]⟩ : ByteArray)] rfl (qea5_) ?_; (with_reducible refine (path_Parse.calls (⟨#[97, 46, 98, 91, 48, 93, 46, 34, 120, 32, 121, 34]⟩ : ByteArray) t101 t104 t105 _ (hG.below (qea2_)) A1.out).mono ?_); rintro e w41 ⟨v102, rfl, ho0, hb⟩; refine ⟨_, rfl, ?_⟩; have n0_ := Aside0.mk (Kd.R_lower ho0 (below_size (qea0_))); have n1_ := Aside0.mk (below_step (qea0_) hb); clear HB; have HO103 := n0_; have HB := n1_; clear n0_ n1_; (try clear hb); (try clear hk); (try clear ho0)) | ((with_reducible refine gate_dst (N := 2) rfl ?_); (try (refine gate_guard (by rfl) ?_; dsimp only)); refine box_event ?hg (N := 2) ?hd (cs := #[.int .i64 0, .int .i64 0]) (t := 95) ?hr ?_; (case hd => rfl); (case hg => rfl); (case hr => first | (go_simp; done) | (go_simp; rfl)); intro gb106 hg w42 hbox hb; have n0_ := Aside0.mk (Kd.R_below (qea6_) hb); have n1_ := Aside0.mk (below_step (qea0_) hb); have n2_ := Aside0.mk (hbox); have n3_ := Aside0.mk ((by rw [hg]; exact (below_size (qea0_)) : w.heap.size ≤ gb106)); have n4_ := Aside0.mk ((by rw [hg]; exact (below_size (qea0_)) : w.heap.size ≤ gb106)); clear HO103; clear HB; have HO103 := n0_; have HB := n1_; have BK106 := n2_; have GW106 := n3_; have GE106 := n4_; clear n0_ n1_ n2_ n3_ n4_; clear hb hbox hg; have hcz43_0 : w42.cell? ⟨gb106, 0, none⟩ = some (.int .i64 0) := (blk_cell BK106.out 0).trans rfl; have hcz43_1 : w42.cell? ⟨gb106, 1, none⟩ = some (.int .i64 0) := (blk_cell BK106.out 1).trans rfl; have hfz43_0 := blk_frozen BK106.out 0; have hfz43_1 := blk_frozen BK106.out 1; obtain ⟨Ao44, co44, eo44⟩ := Kd.R_slice HO103.out; subst eo44) | ((with_reducible refine gate_callee (f := 28) rfl ?_); refine goesL_ (some 11) rfl rfl Tryz.func28 (by kernel_rfl) rfl #[.slice Ao44 t101.length co44] rfl (qea5_) ?_; (with_reducible refine (path_Format.calls _ _ t101 t107 t108 _ ?side1 ?side2 (hG.below (qea2_)) A2.out).mono ?_); (case side1 => refine (Kd.R_reads' (e := 98) (base := w.heap.size) (ok := fun k_ => True) (n := t101.length) (c := co44) ?_).2.2; exact (qea1_)); (case side2 => exact qea9_); rintro e w45 ⟨rfl, hb⟩; refine ⟨_, rfl, ?_⟩; have n0_ := Aside0.mk (Kd.R_below (qea1_) hb); have n1_ := Aside0.mk (blk_below (g := gb106) (o := .cells #[.int .i64 t104, .int .i64 t105] 95 (0, 0)) (qea3_) hb); have n2_ := Aside0.mk (below_step (qea4_) hb); clear HO103; clear BK106; clear HB; have HO103 := n0_; have BK106 := n1_; have HB := n2_; clear n0_ n1_ n2_; (try clear hb); (try clear hk); have hcz46_0 : w45.cell? ⟨gb106, 0, none⟩ = some (.int .i64 t104) := (blk_cell BK106.out 0).trans rfl; have hcz46_1 : w45.cell? ⟨gb106, 1, none⟩ = some (.int .i64 t105) := (blk_cell BK106.out 1).trans rfl; have hfz46_0 := blk_frozen BK106.out 0; have hfz46_1 := blk_frozen BK106.out 1))
  go_ret
  exact ⟨qea7_, qea4_⟩
 rw [if_pos c3] at H
 have c3b0 : (t104 == 0 && (t105 == 0)) = true := c3
 (try (have c3b1 : decide (t104 = 0 && (t105 == 0)) = true := by simpa using c3))
 (try (have c3b2 : (t104 == 0 && (t105 == 0)) = true := by simpa using c3))
 clear c3
 by_cases c4 : (t101.length : Int) = 4
 rotate_left
 ·
  rw [if_neg c4] at H
  have c4b0 : ((t101.length : Int) == 4) = false := beq_eq_false_iff_ne.mpr c4
  have c4b1 : ((t101.length : Int) != 4) = true := bne_iff_ne.mpr c4
  obtain rfl := Option.some.inj H
  go_enter Tryz.func24, Tryz.ntmps24
  go_wp2_with (first | ((with_reducible refine gate_callee (f := 47) rfl ?_); refine goesL_ (some 6) rfl rfl Tryz.func47 (by kernel_rfl) rfl #[.string (⟨#[97, 46, 98, 91, 48, 93, 46, 34, 120, 32, 121, 34]⟩ : ByteArray)] rfl (qea5_) ?_; (with_reducible refine (path_Parse.calls (⟨#[97, 46, 98, 91, 48, 93, 46, 34, 120, 32, 121, 34]⟩ : ByteArray) t101 t104 t105 _ (hG.below (qea2_)) A1.out).mono ?_); rintro e w35 ⟨v102, rfl, ho0, hb⟩; refine ⟨_, rfl, ?_⟩; have n0_ := Aside0.mk (Kd.R_lower ho0 (below_size (qea0_))); have n1_ := Aside0.mk (below_step (qea0_) hb); clear HB; have HO103 := n0_; have HB := n1_; clear n0_ n1_; (try clear hb); (try clear hk); (try clear ho0)) | ((with_reducible refine gate_dst (N := 2) rfl ?_); (try (refine gate_guard (by rfl) ?_; dsimp only)); refine box_event ?hg (N := 2) ?hd (cs := #[.int .i64 0, .int .i64 0]) (t := 95) ?hr ?_; (case hd => rfl); (case hg => rfl); (case hr => first | (go_simp; done) | (go_simp; rfl)); intro gb106 hg w36 hbox hb; have n0_ := Aside0.mk (Kd.R_below (qea6_) hb); have n1_ := Aside0.mk (below_step (qea0_) hb); have n2_ := Aside0.mk (hbox); have n3_ := Aside0.mk ((by rw [hg]; exact (below_size (qea0_)) : w.heap.size ≤ gb106)); have n4_ := Aside0.mk ((by rw [hg]; exact (below_size (qea0_)) : w.heap.size ≤ gb106)); clear HO103; clear HB; have HO103 := n0_; have HB := n1_; have BK106 := n2_; have GW106 := n3_; have GE106 := n4_; clear n0_ n1_ n2_ n3_ n4_; clear hb hbox hg; have hcz37_0 : w36.cell? ⟨gb106, 0, none⟩ = some (.int .i64 0) := (blk_cell BK106.out 0).trans rfl; have hcz37_1 : w36.cell? ⟨gb106, 1, none⟩ = some (.int .i64 0) := (blk_cell BK106.out 1).trans rfl; have hfz37_0 := blk_frozen BK106.out 0; have hfz37_1 := blk_frozen BK106.out 1; obtain ⟨Ao38, co38, eo38⟩ := Kd.R_slice HO103.out; subst eo38) | ((with_reducible refine gate_callee (f := 28) rfl ?_); refine goesL_ (some 11) rfl rfl Tryz.func28 (by kernel_rfl) rfl #[.slice Ao38 t101.length co38] rfl (qea5_) ?_; (with_reducible refine (path_Format.calls _ _ t101 t107 t108 _ ?side1 ?side2 (hG.below (qea2_)) A2.out).mono ?_); (case side1 => refine (Kd.R_reads' (e := 98) (base := w.heap.size) (ok := fun k_ => True) (n := t101.length) (c := co38) ?_).2.2; exact (qea1_)); (case side2 => exact qea9_); rintro e w39 ⟨rfl, hb⟩; refine ⟨_, rfl, ?_⟩; have n0_ := Aside0.mk (Kd.R_below (qea1_) hb); have n1_ := Aside0.mk (blk_below (g := gb106) (o := .cells #[.int .i64 t104, .int .i64 t105] 95 (0, 0)) (qea3_) hb); have n2_ := Aside0.mk (below_step (qea4_) hb); clear HO103; clear BK106; clear HB; have HO103 := n0_; have BK106 := n1_; have HB := n2_; clear n0_ n1_ n2_; (try clear hb); (try clear hk); have hcz40_0 : w39.cell? ⟨gb106, 0, none⟩ = some (.int .i64 t104) := (blk_cell BK106.out 0).trans rfl; have hcz40_1 : w39.cell? ⟨gb106, 1, none⟩ = some (.int .i64 t105) := (blk_cell BK106.out 1).trans rfl; have hfz40_0 := blk_frozen BK106.out 0; have hfz40_1 := blk_frozen BK106.out 1))
  go_ret
  exact ⟨qea7_, qea4_⟩
 rw [if_pos c4] at H
 have c4b0 : ((t101.length : Int) == 4) = true := beq_iff_eq.mpr c4
 have c4b1 : ((t101.length : Int) != 4) = false := bne_eq_false_iff_eq.mpr c4
 clear c4
 by_cases c5 : 2 < (t101.length : Int)
 rotate_left
 ·
  rw [if_neg c5] at H
  exact absurd H (by simp)
 rw [if_pos c5] at H
 have c5b0 : decide (2 < (t101.length : Int)) = true := decide_eq_true c5
 have c5b1 : decide (2 < t101.length) = true := decide_eq_true (by omega)
 clear c5
 obtain ⟨bq6, hbq6⟩ : ∃ b_ : Bool, b_ = ((rd_T98 t101 2).f2) := ⟨_, rfl⟩
 replace H : (if bq6 = true then (if 3 < (t101.length : Int) then (if ((rd_T98 t101 3).f0).toList = ([120, 32, 121] : List UInt8) then (if t108 = 0 then (some (t107.toList == ([97, 46, 98, 91, 48, 93, 46, 34, 120, 32, 121, 34] : List UInt8))) else (some false)) else (some false)) else (none)) else (some false)) = some r := by rw [← hbq6] at H; exact H
 have Nbq6 := Aside0.mk hbq6
 clear hbq6
 by_cases c7 : bq6 = true
 rotate_left
 ·
  replace c7 := Bool.eq_false_iff.mpr c7
  subst c7
  have H1 : (some false) = some r := by rw [if_neg (show ¬ (false = true) by decide)] at H; exact H
  clear H
  have H := H1
  clear H1
  obtain rfl := Option.some.inj H
  go_enter Tryz.func24, Tryz.ntmps24
  go_wp2_with (first | ((with_reducible refine gate_callee (f := 47) rfl ?_); refine goesL_ (some 6) rfl rfl Tryz.func47 (by kernel_rfl) rfl #[.string (⟨#[97, 46, 98, 91, 48, 93, 46, 34, 120, 32, 121, 34]⟩ : ByteArray)] rfl (qea5_) ?_; (with_reducible refine (path_Parse.calls (⟨#[97, 46, 98, 91, 48, 93, 46, 34, 120, 32, 121, 34]⟩ : ByteArray) t101 t104 t105 _ (hG.below (qea2_)) A1.out).mono ?_); rintro e w29 ⟨v102, rfl, ho0, hb⟩; refine ⟨_, rfl, ?_⟩; have n0_ := Aside0.mk (Kd.R_lower ho0 (below_size (qea0_))); have n1_ := Aside0.mk (below_step (qea0_) hb); clear HB; have HO103 := n0_; have HB := n1_; clear n0_ n1_; (try clear hb); (try clear hk); (try clear ho0)) | ((with_reducible refine gate_dst (N := 2) rfl ?_); (try (refine gate_guard (by rfl) ?_; dsimp only)); refine box_event ?hg (N := 2) ?hd (cs := #[.int .i64 0, .int .i64 0]) (t := 95) ?hr ?_; (case hd => rfl); (case hg => rfl); (case hr => first | (go_simp; done) | (go_simp; rfl)); intro gb106 hg w30 hbox hb; have n0_ := Aside0.mk (Kd.R_below (qea6_) hb); have n1_ := Aside0.mk (below_step (qea0_) hb); have n2_ := Aside0.mk (hbox); have n3_ := Aside0.mk ((by rw [hg]; exact (below_size (qea0_)) : w.heap.size ≤ gb106)); have n4_ := Aside0.mk ((by rw [hg]; exact (below_size (qea0_)) : w.heap.size ≤ gb106)); clear HO103; clear HB; have HO103 := n0_; have HB := n1_; have BK106 := n2_; have GW106 := n3_; have GE106 := n4_; clear n0_ n1_ n2_ n3_ n4_; clear hb hbox hg; have hcz31_0 : w30.cell? ⟨gb106, 0, none⟩ = some (.int .i64 0) := (blk_cell BK106.out 0).trans rfl; have hcz31_1 : w30.cell? ⟨gb106, 1, none⟩ = some (.int .i64 0) := (blk_cell BK106.out 1).trans rfl; have hfz31_0 := blk_frozen BK106.out 0; have hfz31_1 := blk_frozen BK106.out 1; obtain ⟨Ao32, co32, eo32⟩ := Kd.R_slice HO103.out; subst eo32) | ((with_reducible refine gate_callee (f := 28) rfl ?_); refine goesL_ (some 11) rfl rfl Tryz.func28 (by kernel_rfl) rfl #[.slice Ao32 t101.length co32] rfl (qea5_) ?_; (with_reducible refine (path_Format.calls _ _ t101 t107 t108 _ ?side1 ?side2 (hG.below (qea2_)) A2.out).mono ?_); (case side1 => refine (Kd.R_reads' (e := 98) (base := w.heap.size) (ok := fun k_ => True) (n := t101.length) (c := co32) ?_).2.2; exact (qea1_)); (case side2 => exact qea9_); rintro e w33 ⟨rfl, hb⟩; refine ⟨_, rfl, ?_⟩; have n0_ := Aside0.mk (Kd.R_below (qea1_) hb); have n1_ := Aside0.mk (blk_below (g := gb106) (o := .cells #[.int .i64 t104, .int .i64 t105] 95 (0, 0)) (qea3_) hb); have n2_ := Aside0.mk (below_step (qea4_) hb); clear HO103; clear BK106; clear HB; have HO103 := n0_; have BK106 := n1_; have HB := n2_; clear n0_ n1_ n2_; (try clear hb); (try clear hk); have hcz34_0 : w33.cell? ⟨gb106, 0, none⟩ = some (.int .i64 t104) := (blk_cell BK106.out 0).trans rfl; have hcz34_1 : w33.cell? ⟨gb106, 1, none⟩ = some (.int .i64 t105) := (blk_cell BK106.out 1).trans rfl; have hfz34_0 := blk_frozen BK106.out 0; have hfz34_1 := blk_frozen BK106.out 1; have p109 : 0 ≤ (2 : Int) := (by omega); have q109 : 2 < (t101.length : Int) := of_decide_eq_true (qea8_); obtain ⟨ad109, e109, hx109_0, hx109_1, hx109_2⟩ := at_T98 (Kd.R_reads' HO103.out).2.2 2 p109 q109; (try rw [← Nbq6.out] at hx109_2); cases e109; (try simp only [show (2 : Int).toNat = 2 from rfl, Nat.reduceMul, Nat.reduceEqDiff, Go.Addr.add, ↓reduceIte] at hx109_0); (try simp only [show (2 : Int).toNat = 2 from rfl, Nat.reduceMul, Nat.reduceEqDiff, Go.Addr.add, ↓reduceIte] at hx109_1); (try simp only [show (2 : Int).toNat = 2 from rfl, Nat.reduceMul, Nat.reduceEqDiff, Go.Addr.add, ↓reduceIte] at hx109_2); have qi109 : (2 < t101.length) = True := eq_true (by omega); (try rw [show ((2 : Int)).toNat = 2 from rfl] at hx109_0); (try rw [show 2 * 3 = 6 from rfl] at hx109_0); (try rw [show ((2 : Int)).toNat = 2 from rfl] at hx109_1); (try rw [show 2 * 3 = 6 from rfl] at hx109_1); (try rw [show ((2 : Int)).toNat = 2 from rfl] at hx109_2); (try rw [show 2 * 3 = 6 from rfl] at hx109_2); replace p109 := eq_true p109; replace q109 := eq_true q109))
  go_ret
  exact ⟨qea7_, qea4_⟩
 subst c7
 have H1 : (if 3 < (t101.length : Int) then (if ((rd_T98 t101 3).f0).toList = ([120, 32, 121] : List UInt8) then (if t108 = 0 then (some (t107.toList == ([97, 46, 98, 91, 48, 93, 46, 34, 120, 32, 121, 34] : List UInt8))) else (some false)) else (some false)) else (none)) = some r := by rw [if_pos rfl] at H; exact H
 clear H
 have H := H1
 clear H1
 by_cases c8 : 3 < (t101.length : Int)
 rotate_left
 ·
  rw [if_neg c8] at H
  exact absurd H (by simp)
 rw [if_pos c8] at H
 have c8b0 : decide (3 < (t101.length : Int)) = true := decide_eq_true c8
 have c8b1 : decide (3 < t101.length) = true := decide_eq_true (by omega)
 clear c8
 by_cases c9 : ((rd_T98 t101 3).f0).toList = ([120, 32, 121] : List UInt8)
 rotate_left
 ·
  rw [if_neg c9] at H
  have c9b0 : (((rd_T98 t101 3).f0).toList == ([120, 32, 121] : List UInt8)) = false := beq_eq_false_iff_ne.mpr c9
  have c9b1 : (((rd_T98 t101 3).f0).toList != ([120, 32, 121] : List UInt8)) = true := bne_iff_ne.mpr c9
  obtain rfl := Option.some.inj H
  go_enter Tryz.func24, Tryz.ntmps24
  go_wp2_with (first | ((with_reducible refine gate_callee (f := 47) rfl ?_); refine goesL_ (some 6) rfl rfl Tryz.func47 (by kernel_rfl) rfl #[.string (⟨#[97, 46, 98, 91, 48, 93, 46, 34, 120, 32, 121, 34]⟩ : ByteArray)] rfl (qea5_) ?_; (with_reducible refine (path_Parse.calls (⟨#[97, 46, 98, 91, 48, 93, 46, 34, 120, 32, 121, 34]⟩ : ByteArray) t101 t104 t105 _ (hG.below (qea2_)) A1.out).mono ?_); rintro e w23 ⟨v102, rfl, ho0, hb⟩; refine ⟨_, rfl, ?_⟩; have n0_ := Aside0.mk (Kd.R_lower ho0 (below_size (qea0_))); have n1_ := Aside0.mk (below_step (qea0_) hb); clear HB; have HO103 := n0_; have HB := n1_; clear n0_ n1_; (try clear hb); (try clear hk); (try clear ho0)) | ((with_reducible refine gate_dst (N := 2) rfl ?_); (try (refine gate_guard (by rfl) ?_; dsimp only)); refine box_event ?hg (N := 2) ?hd (cs := #[.int .i64 0, .int .i64 0]) (t := 95) ?hr ?_; (case hd => rfl); (case hg => rfl); (case hr => first | (go_simp; done) | (go_simp; rfl)); intro gb106 hg w24 hbox hb; have n0_ := Aside0.mk (Kd.R_below (qea6_) hb); have n1_ := Aside0.mk (below_step (qea0_) hb); have n2_ := Aside0.mk (hbox); have n3_ := Aside0.mk ((by rw [hg]; exact (below_size (qea0_)) : w.heap.size ≤ gb106)); have n4_ := Aside0.mk ((by rw [hg]; exact (below_size (qea0_)) : w.heap.size ≤ gb106)); clear HO103; clear HB; have HO103 := n0_; have HB := n1_; have BK106 := n2_; have GW106 := n3_; have GE106 := n4_; clear n0_ n1_ n2_ n3_ n4_; clear hb hbox hg; have hcz25_0 : w24.cell? ⟨gb106, 0, none⟩ = some (.int .i64 0) := (blk_cell BK106.out 0).trans rfl; have hcz25_1 : w24.cell? ⟨gb106, 1, none⟩ = some (.int .i64 0) := (blk_cell BK106.out 1).trans rfl; have hfz25_0 := blk_frozen BK106.out 0; have hfz25_1 := blk_frozen BK106.out 1; obtain ⟨Ao26, co26, eo26⟩ := Kd.R_slice HO103.out; subst eo26) | ((with_reducible refine gate_callee (f := 28) rfl ?_); refine goesL_ (some 11) rfl rfl Tryz.func28 (by kernel_rfl) rfl #[.slice Ao26 t101.length co26] rfl (qea5_) ?_; (with_reducible refine (path_Format.calls _ _ t101 t107 t108 _ ?side1 ?side2 (hG.below (qea2_)) A2.out).mono ?_); (case side1 => refine (Kd.R_reads' (e := 98) (base := w.heap.size) (ok := fun k_ => True) (n := t101.length) (c := co26) ?_).2.2; exact (qea1_)); (case side2 => exact qea9_); rintro e w27 ⟨rfl, hb⟩; refine ⟨_, rfl, ?_⟩; have n0_ := Aside0.mk (Kd.R_below (qea1_) hb); have n1_ := Aside0.mk (blk_below (g := gb106) (o := .cells #[.int .i64 t104, .int .i64 t105] 95 (0, 0)) (qea3_) hb); have n2_ := Aside0.mk (below_step (qea4_) hb); clear HO103; clear BK106; clear HB; have HO103 := n0_; have BK106 := n1_; have HB := n2_; clear n0_ n1_ n2_; (try clear hb); (try clear hk); have hcz28_0 : w27.cell? ⟨gb106, 0, none⟩ = some (.int .i64 t104) := (blk_cell BK106.out 0).trans rfl; have hcz28_1 : w27.cell? ⟨gb106, 1, none⟩ = some (.int .i64 t105) := (blk_cell BK106.out 1).trans rfl; have hfz28_0 := blk_frozen BK106.out 0; have hfz28_1 := blk_frozen BK106.out 1; have p109 : 0 ≤ (2 : Int) := (by omega); have q109 : 2 < (t101.length : Int) := of_decide_eq_true (qea8_); obtain ⟨ad109, e109, hx109_0, hx109_1, hx109_2⟩ := at_T98 (Kd.R_reads' HO103.out).2.2 2 p109 q109; (try rw [← Nbq6.out] at hx109_2); cases e109; (try simp only [show (2 : Int).toNat = 2 from rfl, Nat.reduceMul, Nat.reduceEqDiff, Go.Addr.add, ↓reduceIte] at hx109_0); (try simp only [show (2 : Int).toNat = 2 from rfl, Nat.reduceMul, Nat.reduceEqDiff, Go.Addr.add, ↓reduceIte] at hx109_1); (try simp only [show (2 : Int).toNat = 2 from rfl, Nat.reduceMul, Nat.reduceEqDiff, Go.Addr.add, ↓reduceIte] at hx109_2); have qi109 : (2 < t101.length) = True := eq_true (by omega); (try rw [show ((2 : Int)).toNat = 2 from rfl] at hx109_0); (try rw [show 2 * 3 = 6 from rfl] at hx109_0); (try rw [show ((2 : Int)).toNat = 2 from rfl] at hx109_1); (try rw [show 2 * 3 = 6 from rfl] at hx109_1); (try rw [show ((2 : Int)).toNat = 2 from rfl] at hx109_2); (try rw [show 2 * 3 = 6 from rfl] at hx109_2); replace p109 := eq_true p109; replace q109 := eq_true q109; have p110 : 0 ≤ (3 : Int) := (by omega); have q110 : 3 < (t101.length : Int) := of_decide_eq_true (qea8_); obtain ⟨ad110, e110, hx110_0, hx110_1, hx110_2⟩ := at_T98 (Kd.R_reads' HO103.out).2.2 3 p110 q110; (try rw [← Nbq6.out] at hx110_2); obtain rfl : ad109 = ad110 := (by injection e110); (try simp only [show (3 : Int).toNat = 3 from rfl, Nat.reduceMul, Nat.reduceEqDiff, Go.Addr.add, ↓reduceIte] at hx110_0); (try simp only [show (3 : Int).toNat = 3 from rfl, Nat.reduceMul, Nat.reduceEqDiff, Go.Addr.add, ↓reduceIte] at hx110_1); (try simp only [show (3 : Int).toNat = 3 from rfl, Nat.reduceMul, Nat.reduceEqDiff, Go.Addr.add, ↓reduceIte] at hx110_2); have qi110 : (3 < t101.length) = True := eq_true (by omega); (try rw [show ((3 : Int)).toNat = 3 from rfl] at hx110_0); (try rw [show 3 * 3 = 9 from rfl] at hx110_0); (try rw [show ((3 : Int)).toNat = 3 from rfl] at hx110_1); (try rw [show 3 * 3 = 9 from rfl] at hx110_1); (try rw [show ((3 : Int)).toNat = 3 from rfl] at hx110_2); (try rw [show 3 * 3 = 9 from rfl] at hx110_2); replace p110 := eq_true p110; replace q110 := eq_true q110))
  go_ret
  exact ⟨qea7_, qea4_⟩
 rw [if_pos c9] at H
 have c9b0 : (((rd_T98 t101 3).f0).toList == ([120, 32, 121] : List UInt8)) = true := beq_iff_eq.mpr c9
 have c9b1 : (((rd_T98 t101 3).f0).toList != ([120, 32, 121] : List UInt8)) = false := bne_eq_false_iff_eq.mpr c9
 clear c9
 by_cases c10 : t108 = 0
 rotate_left
 ·
  rw [if_neg c10] at H
  have c10b0 : (t108 == 0) = false := beq_eq_false_iff_ne.mpr c10
  have c10b1 : (t108 != 0) = true := bne_iff_ne.mpr c10
  obtain rfl := Option.some.inj H
  go_enter Tryz.func24, Tryz.ntmps24
  go_wp2_with (first | ((with_reducible refine gate_callee (f := 47) rfl ?_); refine goesL_ (some 6) rfl rfl Tryz.func47 (by kernel_rfl) rfl #[.string (⟨#[97, 46, 98, 91, 48, 93, 46, 34, 120, 32, 121, 34]⟩ : ByteArray)] rfl (qea5_) ?_; (with_reducible refine (path_Parse.calls (⟨#[97, 46, 98, 91, 48, 93, 46, 34, 120, 32, 121, 34]⟩ : ByteArray) t101 t104 t105 _ (hG.below (qea2_)) A1.out).mono ?_); rintro e w17 ⟨v102, rfl, ho0, hb⟩; refine ⟨_, rfl, ?_⟩; have n0_ := Aside0.mk (Kd.R_lower ho0 (below_size (qea0_))); have n1_ := Aside0.mk (below_step (qea0_) hb); clear HB; have HO103 := n0_; have HB := n1_; clear n0_ n1_; (try clear hb); (try clear hk); (try clear ho0)) | ((with_reducible refine gate_dst (N := 2) rfl ?_); (try (refine gate_guard (by rfl) ?_; dsimp only)); refine box_event ?hg (N := 2) ?hd (cs := #[.int .i64 0, .int .i64 0]) (t := 95) ?hr ?_; (case hd => rfl); (case hg => rfl); (case hr => first | (go_simp; done) | (go_simp; rfl)); intro gb106 hg w18 hbox hb; have n0_ := Aside0.mk (Kd.R_below (qea6_) hb); have n1_ := Aside0.mk (below_step (qea0_) hb); have n2_ := Aside0.mk (hbox); have n3_ := Aside0.mk ((by rw [hg]; exact (below_size (qea0_)) : w.heap.size ≤ gb106)); have n4_ := Aside0.mk ((by rw [hg]; exact (below_size (qea0_)) : w.heap.size ≤ gb106)); clear HO103; clear HB; have HO103 := n0_; have HB := n1_; have BK106 := n2_; have GW106 := n3_; have GE106 := n4_; clear n0_ n1_ n2_ n3_ n4_; clear hb hbox hg; have hcz19_0 : w18.cell? ⟨gb106, 0, none⟩ = some (.int .i64 0) := (blk_cell BK106.out 0).trans rfl; have hcz19_1 : w18.cell? ⟨gb106, 1, none⟩ = some (.int .i64 0) := (blk_cell BK106.out 1).trans rfl; have hfz19_0 := blk_frozen BK106.out 0; have hfz19_1 := blk_frozen BK106.out 1; obtain ⟨Ao20, co20, eo20⟩ := Kd.R_slice HO103.out; subst eo20) | ((with_reducible refine gate_callee (f := 28) rfl ?_); refine goesL_ (some 11) rfl rfl Tryz.func28 (by kernel_rfl) rfl #[.slice Ao20 t101.length co20] rfl (qea5_) ?_; (with_reducible refine (path_Format.calls _ _ t101 t107 t108 _ ?side1 ?side2 (hG.below (qea2_)) A2.out).mono ?_); (case side1 => refine (Kd.R_reads' (e := 98) (base := w.heap.size) (ok := fun k_ => True) (n := t101.length) (c := co20) ?_).2.2; exact (qea1_)); (case side2 => exact qea9_); rintro e w21 ⟨rfl, hb⟩; refine ⟨_, rfl, ?_⟩; have n0_ := Aside0.mk (Kd.R_below (qea1_) hb); have n1_ := Aside0.mk (blk_below (g := gb106) (o := .cells #[.int .i64 t104, .int .i64 t105] 95 (0, 0)) (qea3_) hb); have n2_ := Aside0.mk (below_step (qea4_) hb); clear HO103; clear BK106; clear HB; have HO103 := n0_; have BK106 := n1_; have HB := n2_; clear n0_ n1_ n2_; (try clear hb); (try clear hk); have hcz22_0 : w21.cell? ⟨gb106, 0, none⟩ = some (.int .i64 t104) := (blk_cell BK106.out 0).trans rfl; have hcz22_1 : w21.cell? ⟨gb106, 1, none⟩ = some (.int .i64 t105) := (blk_cell BK106.out 1).trans rfl; have hfz22_0 := blk_frozen BK106.out 0; have hfz22_1 := blk_frozen BK106.out 1; have p109 : 0 ≤ (2 : Int) := (by omega); have q109 : 2 < (t101.length : Int) := of_decide_eq_true (qea8_); obtain ⟨ad109, e109, hx109_0, hx109_1, hx109_2⟩ := at_T98 (Kd.R_reads' HO103.out).2.2 2 p109 q109; (try rw [← Nbq6.out] at hx109_2); cases e109; (try simp only [show (2 : Int).toNat = 2 from rfl, Nat.reduceMul, Nat.reduceEqDiff, Go.Addr.add, ↓reduceIte] at hx109_0); (try simp only [show (2 : Int).toNat = 2 from rfl, Nat.reduceMul, Nat.reduceEqDiff, Go.Addr.add, ↓reduceIte] at hx109_1); (try simp only [show (2 : Int).toNat = 2 from rfl, Nat.reduceMul, Nat.reduceEqDiff, Go.Addr.add, ↓reduceIte] at hx109_2); have qi109 : (2 < t101.length) = True := eq_true (by omega); (try rw [show ((2 : Int)).toNat = 2 from rfl] at hx109_0); (try rw [show 2 * 3 = 6 from rfl] at hx109_0); (try rw [show ((2 : Int)).toNat = 2 from rfl] at hx109_1); (try rw [show 2 * 3 = 6 from rfl] at hx109_1); (try rw [show ((2 : Int)).toNat = 2 from rfl] at hx109_2); (try rw [show 2 * 3 = 6 from rfl] at hx109_2); replace p109 := eq_true p109; replace q109 := eq_true q109; have p110 : 0 ≤ (3 : Int) := (by omega); have q110 : 3 < (t101.length : Int) := of_decide_eq_true (qea8_); obtain ⟨ad110, e110, hx110_0, hx110_1, hx110_2⟩ := at_T98 (Kd.R_reads' HO103.out).2.2 3 p110 q110; (try rw [← Nbq6.out] at hx110_2); obtain rfl : ad109 = ad110 := (by injection e110); (try simp only [show (3 : Int).toNat = 3 from rfl, Nat.reduceMul, Nat.reduceEqDiff, Go.Addr.add, ↓reduceIte] at hx110_0); (try simp only [show (3 : Int).toNat = 3 from rfl, Nat.reduceMul, Nat.reduceEqDiff, Go.Addr.add, ↓reduceIte] at hx110_1); (try simp only [show (3 : Int).toNat = 3 from rfl, Nat.reduceMul, Nat.reduceEqDiff, Go.Addr.add, ↓reduceIte] at hx110_2); have qi110 : (3 < t101.length) = True := eq_true (by omega); (try rw [show ((3 : Int)).toNat = 3 from rfl] at hx110_0); (try rw [show 3 * 3 = 9 from rfl] at hx110_0); (try rw [show ((3 : Int)).toNat = 3 from rfl] at hx110_1); (try rw [show 3 * 3 = 9 from rfl] at hx110_1); (try rw [show ((3 : Int)).toNat = 3 from rfl] at hx110_2); (try rw [show 3 * 3 = 9 from rfl] at hx110_2); replace p110 := eq_true p110; replace q110 := eq_true q110))
  go_ret
  exact ⟨qea7_, qea4_⟩
 rw [if_pos c10] at H
 have c10b0 : (t108 == 0) = true := beq_iff_eq.mpr c10
 have c10b1 : (t108 != 0) = false := bne_eq_false_iff_eq.mpr c10
 clear c10
 obtain rfl := Option.some.inj H
 go_enter Tryz.func24, Tryz.ntmps24
 go_wp2_with (first | ((with_reducible refine gate_callee (f := 47) rfl ?_); refine goesL_ (some 6) rfl rfl Tryz.func47 (by kernel_rfl) rfl #[.string (⟨#[97, 46, 98, 91, 48, 93, 46, 34, 120, 32, 121, 34]⟩ : ByteArray)] rfl (qea5_) ?_; (with_reducible refine (path_Parse.calls (⟨#[97, 46, 98, 91, 48, 93, 46, 34, 120, 32, 121, 34]⟩ : ByteArray) t101 t104 t105 _ (hG.below (qea2_)) A1.out).mono ?_); rintro e w11 ⟨v102, rfl, ho0, hb⟩; refine ⟨_, rfl, ?_⟩; have n0_ := Aside0.mk (Kd.R_lower ho0 (below_size (qea0_))); have n1_ := Aside0.mk (below_step (qea0_) hb); clear HB; have HO103 := n0_; have HB := n1_; clear n0_ n1_; (try clear hb); (try clear hk); (try clear ho0)) | ((with_reducible refine gate_dst (N := 2) rfl ?_); (try (refine gate_guard (by rfl) ?_; dsimp only)); refine box_event ?hg (N := 2) ?hd (cs := #[.int .i64 0, .int .i64 0]) (t := 95) ?hr ?_; (case hd => rfl); (case hg => rfl); (case hr => first | (go_simp; done) | (go_simp; rfl)); intro gb106 hg w12 hbox hb; have n0_ := Aside0.mk (Kd.R_below (qea6_) hb); have n1_ := Aside0.mk (below_step (qea0_) hb); have n2_ := Aside0.mk (hbox); have n3_ := Aside0.mk ((by rw [hg]; exact (below_size (qea0_)) : w.heap.size ≤ gb106)); have n4_ := Aside0.mk ((by rw [hg]; exact (below_size (qea0_)) : w.heap.size ≤ gb106)); clear HO103; clear HB; have HO103 := n0_; have HB := n1_; have BK106 := n2_; have GW106 := n3_; have GE106 := n4_; clear n0_ n1_ n2_ n3_ n4_; clear hb hbox hg; have hcz13_0 : w12.cell? ⟨gb106, 0, none⟩ = some (.int .i64 0) := (blk_cell BK106.out 0).trans rfl; have hcz13_1 : w12.cell? ⟨gb106, 1, none⟩ = some (.int .i64 0) := (blk_cell BK106.out 1).trans rfl; have hfz13_0 := blk_frozen BK106.out 0; have hfz13_1 := blk_frozen BK106.out 1; obtain ⟨Ao14, co14, eo14⟩ := Kd.R_slice HO103.out; subst eo14) | ((with_reducible refine gate_callee (f := 28) rfl ?_); refine goesL_ (some 11) rfl rfl Tryz.func28 (by kernel_rfl) rfl #[.slice Ao14 t101.length co14] rfl (qea5_) ?_; (with_reducible refine (path_Format.calls _ _ t101 t107 t108 _ ?side1 ?side2 (hG.below (qea2_)) A2.out).mono ?_); (case side1 => refine (Kd.R_reads' (e := 98) (base := w.heap.size) (ok := fun k_ => True) (n := t101.length) (c := co14) ?_).2.2; exact (qea1_)); (case side2 => exact qea9_); rintro e w15 ⟨rfl, hb⟩; refine ⟨_, rfl, ?_⟩; have n0_ := Aside0.mk (Kd.R_below (qea1_) hb); have n1_ := Aside0.mk (blk_below (g := gb106) (o := .cells #[.int .i64 t104, .int .i64 t105] 95 (0, 0)) (qea3_) hb); have n2_ := Aside0.mk (below_step (qea4_) hb); clear HO103; clear BK106; clear HB; have HO103 := n0_; have BK106 := n1_; have HB := n2_; clear n0_ n1_ n2_; (try clear hb); (try clear hk); have hcz16_0 : w15.cell? ⟨gb106, 0, none⟩ = some (.int .i64 t104) := (blk_cell BK106.out 0).trans rfl; have hcz16_1 : w15.cell? ⟨gb106, 1, none⟩ = some (.int .i64 t105) := (blk_cell BK106.out 1).trans rfl; have hfz16_0 := blk_frozen BK106.out 0; have hfz16_1 := blk_frozen BK106.out 1; have p109 : 0 ≤ (2 : Int) := (by omega); have q109 : 2 < (t101.length : Int) := of_decide_eq_true (qea8_); obtain ⟨ad109, e109, hx109_0, hx109_1, hx109_2⟩ := at_T98 (Kd.R_reads' HO103.out).2.2 2 p109 q109; (try rw [← Nbq6.out] at hx109_2); cases e109; (try simp only [show (2 : Int).toNat = 2 from rfl, Nat.reduceMul, Nat.reduceEqDiff, Go.Addr.add, ↓reduceIte] at hx109_0); (try simp only [show (2 : Int).toNat = 2 from rfl, Nat.reduceMul, Nat.reduceEqDiff, Go.Addr.add, ↓reduceIte] at hx109_1); (try simp only [show (2 : Int).toNat = 2 from rfl, Nat.reduceMul, Nat.reduceEqDiff, Go.Addr.add, ↓reduceIte] at hx109_2); have qi109 : (2 < t101.length) = True := eq_true (by omega); (try rw [show ((2 : Int)).toNat = 2 from rfl] at hx109_0); (try rw [show 2 * 3 = 6 from rfl] at hx109_0); (try rw [show ((2 : Int)).toNat = 2 from rfl] at hx109_1); (try rw [show 2 * 3 = 6 from rfl] at hx109_1); (try rw [show ((2 : Int)).toNat = 2 from rfl] at hx109_2); (try rw [show 2 * 3 = 6 from rfl] at hx109_2); replace p109 := eq_true p109; replace q109 := eq_true q109; have p110 : 0 ≤ (3 : Int) := (by omega); have q110 : 3 < (t101.length : Int) := of_decide_eq_true (qea8_); obtain ⟨ad110, e110, hx110_0, hx110_1, hx110_2⟩ := at_T98 (Kd.R_reads' HO103.out).2.2 3 p110 q110; (try rw [← Nbq6.out] at hx110_2); obtain rfl : ad109 = ad110 := (by injection e110); (try simp only [show (3 : Int).toNat = 3 from rfl, Nat.reduceMul, Nat.reduceEqDiff, Go.Addr.add, ↓reduceIte] at hx110_0); (try simp only [show (3 : Int).toNat = 3 from rfl, Nat.reduceMul, Nat.reduceEqDiff, Go.Addr.add, ↓reduceIte] at hx110_1); (try simp only [show (3 : Int).toNat = 3 from rfl, Nat.reduceMul, Nat.reduceEqDiff, Go.Addr.add, ↓reduceIte] at hx110_2); have qi110 : (3 < t101.length) = True := eq_true (by omega); (try rw [show ((3 : Int)).toNat = 3 from rfl] at hx110_0); (try rw [show 3 * 3 = 9 from rfl] at hx110_0); (try rw [show ((3 : Int)).toNat = 3 from rfl] at hx110_1); (try rw [show 3 * 3 = 9 from rfl] at hx110_1); (try rw [show ((3 : Int)).toNat = 3 from rfl] at hx110_2); (try rw [show 3 * 3 = 9 from rfl] at hx110_2); replace p110 := eq_true p110; replace q110 := eq_true q110))
 go_ret
 exact ⟨qea7_, qea4_⟩
def graph_isText.j0 : Nat → Int → ByteArray → Int → Bool → Option (Bool)
  | 0, _, _, _, _ => none
  | k + 1, x0, x1, x7, x8 => if x8 = true then ((plain_Resolve.f x1).bind fun t101 => (some (t101 == x0))) else (if x7 = 4 then ((utf_Decode.f x1).bind fun bt102 => (some (bt102.2.1 == 0 && (bt102.2.2 == 0)))) else (some (x1.toList == ([] : List UInt8))))
def graph_isText.f (k : Nat) (a0 : Int) (a1 : ByteArray) : Option (Bool) := if a0 = 2 then (graph_isText.j0 k a0 a1 a0 (a0 == 2)) else (graph_isText.j0 k a0 a1 a0 (a0 == 3))
theorem qxa0_ {P : Prop} (h_ : P := by repeat (first | (with_reducible first | exact HB.out | apply below_alloc | apply pw_below_drewN | apply below_drew1) | exact HB.out)) : P := h_
theorem qxa1_ {P : Prop} (h_ : P := by first | ((repeat (first | (with_reducible first | exact HB.out | apply below_alloc | apply pw_below_drewN | apply below_drew1 | (refine Glob.below_set ?_ (by assumption) _ _ _)) | exact HB.out)); done) | (refine Drawn0.below ?_; repeat (first | exact Drawn0.refl _ | assumption | apply Drawn0.step))) : P := h_
theorem qxa2_ {P : Prop} (h_ : P := by first | rfl | (simp [errW_none, errW_some] <;> rfl) | (simp [*, errW_none, errW_some] <;> rfl)) : P := h_
theorem qxa3_ {P : Prop} (h_ : P := by (try simp only [List.map_toArray, List.map_cons, List.map_nil]); first | done | rfl | (simp only [List.length_drop, List.length_take]; rfl)) : P := h_
set_option maxHeartbeats 8000000 in
set_option maxRecDepth 100000 in
theorem graph_isText.calls (k : Nat) (a0 : Int) (a1 : ByteArray) (r : Bool) (w : World) (hG : Glob.G w) (h : graph_isText.f k a0 a1 = some r) :
  Calls Tryz.prog 86 #[.int .i64 a0, .string a1] w fun e w' => e = .returned (.bool r) ∧ Below w.heap.size w w' := by
 have hu95 := Tryz.underlying95
 have HB := Aside0.mk (Below.refl w.heap.size w)
 have H : (if a0 = 2 then (graph_isText.j0 k a0 a1 a0 (a0 == 2)) else (graph_isText.j0 k a0 a1 a0 (a0 == 3))) = some r := h
 clear h
 have HC3 := Aside0.mk H
 clear H
 go_enter Tryz.func86, Tryz.ntmps86
 go_upto_if 8 with (fail)
 go_cut [8] (fun v8 wc => ∃ (kq : Nat) (x8_2 : Bool), v8 = .bool x8_2 ∧ Aside0 (graph_isText.j0 kq a0 a1 a0 x8_2 = some r) ∧ Aside0 (kq ≤ k) ∧ Aside0 (Below w.heap.size w wc))
 case first =>
  have H := HC3.out
  clear HC3
  by_cases c4 : a0 = 2
  rotate_left
  ·
   rw [if_neg c4] at H
   have c4b0 : (a0 == 2) = false := beq_eq_false_iff_ne.mpr c4
   have c4b1 : (a0 != 2) = true := bne_iff_ne.mpr c4
   (first | rw [c4b0] | (simp only [i64_w, i32_w]; rw [c4b0]) | skip)
   have H' := Aside0.mk H
   clear H
   go_wp2
   go_meet
   case rel => exact ⟨_, ((a0 == 3)), (by first | rfl | (simp; done) | (simp [*]; done)), H', ⟨by first | omega | exact Nat.le_refl _⟩, ⟨qxa0_⟩⟩
  rw [if_pos c4] at H
  have c4b0 : (a0 == 2) = true := beq_iff_eq.mpr c4
  have c4b1 : (a0 != 2) = false := bne_eq_false_iff_eq.mpr c4
  clear c4
  (first | rw [c4b0] | (simp only [i64_w, i32_w]; rw [c4b0]) | skip)
  have H' := Aside0.mk H
  clear H
  go_wp2
  go_meet
  case rel => exact ⟨_, ((a0 == 2)), (by first | rfl | (simp; done) | (simp [*]; done)), H', ⟨by first | omega | exact Nat.le_refl _⟩, ⟨qxa0_⟩⟩
 case rest =>
  clear HC3
  try clear p2
  try clear c4
  try clear c4b0
  try clear c4b1
  obtain ⟨kq, x8_2, rfl, HA, HJ2, HB⟩ := hcut
  cases kq with
  | zero => exact absurd HA.out (by simp [graph_isText.j0])
  | succ kj2 =>
   have H := HA.out
   clear HA
   simp only [graph_isText.j0] at H
   by_cases c5 : x8_2 = true
   ·
    subst c5
    have H1 : ((plain_Resolve.f a1).bind fun t101 => (some (t101 == a0))) = some r := by rw [if_pos rfl] at H; exact H
    clear H
    have H := H1
    clear H1
    replace H := Option.bind_eq_some_iff.mp H
    obtain ⟨t101, A60, H⟩ := H
    replace H : (some (t101 == a0)) = some r := H
    have A6 := Aside0.mk A60
    clear A60
    obtain rfl := Option.some.inj H
    go_wp2_with (first | ((with_reducible refine gate_callee (f := 117) rfl ?_); refine goesL_ (some 12) rfl rfl Tryz.func117 (by kernel_rfl) rfl #[.string a1] rfl (qxa3_) ?_; (with_reducible refine (plain_Resolve.calls a1 t101 _ (hG.below (qxa1_)) A6.out).mono ?_); rintro e w7 ⟨rfl, hb⟩; refine ⟨_, rfl, ?_⟩; have n0_ := Aside0.mk (below_step (qxa0_) hb); clear HB; have HB := n0_; clear n0_; (try clear hb)))
    go_ret
    exact ⟨qxa2_, qxa0_⟩
   replace c5 := Bool.eq_false_iff.mpr c5
   subst c5
   have H1 : (if a0 = 4 then ((utf_Decode.f a1).bind fun bt102 => (some (bt102.2.1 == 0 && (bt102.2.2 == 0)))) else (some (a1.toList == ([] : List UInt8)))) = some r := by rw [if_neg (show ¬ (false = true) by decide)] at H; exact H
   clear H
   have H := H1
   clear H1
   by_cases c8 : a0 = 4
   rotate_left
   ·
    rw [if_neg c8] at H
    have c8b0 : (a0 == 4) = false := beq_eq_false_iff_ne.mpr c8
    have c8b1 : (a0 != 4) = true := bne_iff_ne.mpr c8
    obtain rfl := Option.some.inj H
    go_wp2
    go_ret
    exact ⟨qxa2_, qxa0_⟩
   rw [if_pos c8] at H
   have c8b0 : (a0 == 4) = true := beq_iff_eq.mpr c8
   have c8b1 : (a0 != 4) = false := bne_eq_false_iff_eq.mpr c8
   clear c8
   replace H := Option.bind_eq_some_iff.mp H
   obtain ⟨⟨t102, t105, t106⟩, A90, H⟩ := H
   replace H : (some (t105 == 0 && (t106 == 0))) = some r := H
   have A9 := Aside0.mk A90
   clear A90
   obtain rfl := Option.some.inj H
   go_wp2_with (first | ((with_reducible refine gate_callee (f := 115) rfl ?_); refine goesL_ (some 19) rfl rfl Tryz.func115 (by kernel_rfl) rfl #[.string a1] rfl (qxa3_) ?_; (with_reducible refine (utf_Decode.calls a1 t102 t105 t106 _ (hG.below (qxa1_)) A9.out).mono ?_); rintro e w10 ⟨v103, rfl, ho0, hb⟩; refine ⟨_, rfl, ?_⟩; have n0_ := Aside0.mk (Kd.R_lower ho0 (below_size (qxa0_))); have n1_ := Aside0.mk (below_step (qxa0_) hb); clear HB; have HO104 := n0_; have HB := n1_; clear n0_ n1_; (try clear hb); (try clear ho0)) | ((with_reducible refine gate_dst (N := 6) rfl ?_); refine box_event ?hg (N := 6) ?hd (cs := #[.int .i64 0, .int .i64 0]) (t := 95) ?hr ?_; (case hd => rfl); (case hg => rfl); (case hr => first | (go_simp; done) | (go_simp; rfl)); intro gb107 hg w11 hbox hb; have n0_ := Aside0.mk (Kd.R_below (by (with_reducible repeat (first | apply Kd.R_alloc | apply Kd.R_drewN | apply Kd.R_drew)); exact HO104.out) hb); have n1_ := Aside0.mk (below_step (qxa0_) hb); have n2_ := Aside0.mk (hbox); have n3_ := Aside0.mk ((by rw [hg]; exact (below_size (qxa0_)) : w.heap.size ≤ gb107)); have n4_ := Aside0.mk ((by rw [hg]; exact (below_size (qxa0_)) : w.heap.size ≤ gb107)); clear HO104; clear HB; have HO104 := n0_; have HB := n1_; have BK107 := n2_; have GW107 := n3_; have GE107 := n4_; clear n0_ n1_ n2_ n3_ n4_; clear hb hbox hg; have hcz12_0 : w11.cell? ⟨gb107, 0, none⟩ = some (.int .i64 0) := (blk_cell BK107.out 0).trans rfl; have hcz12_1 : w11.cell? ⟨gb107, 1, none⟩ = some (.int .i64 0) := (blk_cell BK107.out 1).trans rfl; have hfz12_0 := blk_frozen BK107.out 0; have hfz12_1 := blk_frozen BK107.out 1))
   go_ret
   exact ⟨qxa2_, by repeat (first | (with_reducible first | exact HB.out | apply below_alloc | apply pw_below_drewN | apply below_drew1 | refine below_set ?_ GE107.out) | exact HB.out)⟩
end Go.Proofs.YtiooacmplmcphaaGreatDoor.PX
namespace Go.Proofs.YtiooacmplmcphaaGreatDoor.PX
open RowKit YtiooacmplmcphaaGreatDoorW.PrintWords YtiooacmplmcphaaGreatDoorW.PrintLast YtiooacmplmcphaaGreatDoorW.PrintMore YtiooacmplmcphaaGreatDoor
attribute [local go_sem] max2_int min2_int max_two min_two max_three min_three max_four min_four   -- for this text's walks alone
set_option linter.unusedVariables false
set_option linter.unusedSimpArgs false
def graph_isScalar.f (a0 : Int) : Option (Bool) := if a0 ≥ 1 then (some (decide (a0 ≤ 4))) else (some false)
theorem qya0_ {P : Prop} (h_ : P := by first | rfl | (simp; done) | (simp [*]; done) | (simp; generalize ByteArray.toList _ = l_; cases l_ <;> rfl)) : P := h_
set_option maxHeartbeats 8000000 in
set_option maxRecDepth 100000 in
theorem graph_isScalar.calls (a0 : Int) (r : Bool) (w : World) (hG : Glob.G w) (h : graph_isScalar.f a0 = some r) :
  Calls Tryz.prog 87 #[.int .i64 a0] w fun e w' => e = .returned (.bool r) ∧ Drawn0 w w' := by
 have H : (if a0 ≥ 1 then (some (decide (a0 ≤ 4))) else (some false)) = some r := h
 clear h
 by_cases c2 : a0 ≥ 1
 ·
  rw [if_pos c2] at H
  have c2b0 : decide (1 ≤ a0) = true := decide_eq_true c2
  clear c2
  obtain rfl := Option.some.inj H
  go_enter Tryz.func87, Tryz.ntmps87
  go_wp2
  go_ret
  exact ⟨qya0_, by repeat (first | exact Drawn0.refl _ | apply Drawn0.step)⟩
 rw [if_neg c2] at H
 have c2b0 : decide (1 ≤ a0) = false := decide_eq_false c2
 clear c2
 obtain rfl := Option.some.inj H
 go_enter Tryz.func87, Tryz.ntmps87
 go_wp2
 go_ret
 exact ⟨qya0_, by repeat (first | exact Drawn0.refl _ | apply Drawn0.step)⟩
def graph_keys.l0 : Nat → List Int → Int → Int → ByteArray → List Int → Option (List Int)
  | 0, _, _, _, _, _ => none
  | k + 1, x3, x4, x102000, x102001, x102002 => if (wrap64 (x4 + 1)) < (x102002.length : Int) then (if 0 ≤ x4 then (if x4 < (x102002.length : Int) then (if x3.length < 17592186044416 then (graph_keys.l0 k (x3 ++ [rd x102002 x4]) (wrap64 (x4 + 2)) x102000 x102001 x102002) else (none)) else (none)) else (none)) else (some x3)
def graph_keys.f (k : Nat) (a0_0 : Int) (a0_1 : ByteArray) (l0_2 : List Int) : Option (List Int) := if a0_0 = 6 then (graph_keys.l0 k ([] : List Int) 0 a0_0 a0_1 l0_2) else (some ([] : List Int))
theorem qza0_ {P : Prop} (h_ : P := by repeat (first | (with_reducible first | exact HB.out | apply below_alloc | apply pw_below_drewN | apply below_drew1 | refine below_set ?_ GE101.out) | exact HB.out)) : P := h_
theorem qza1_ {P : Prop} (h_ : P := by repeat (first | (with_reducible first | exact HB.out | apply below_alloc | apply pw_below_drewN | apply below_drew1) | exact HB.out)) : P := h_
theorem qza2_ {P : Prop} (h_ : P := by (with_reducible repeat (first | refine blk_drewN ?_ _ | refine blk_drew ?_ | refine blk_alloc ?_ _)); exact BK101.out) : P := h_
theorem qza3_ {P : Prop} (h_ : P := by first | exact Kd.R_nil _ _ _ _ _ | exact Kd.N_nil _ _ _ _ _ | exact Kd.V_nil _ _ _ _ _ | exact Kd.Q_nil _ _ _ _ _ | exact Kd.S_nil _ _ _ _ _) : P := h_
set_option maxHeartbeats 8000000 in
set_option maxRecDepth 100000 in
theorem graph_keys.calls (k : Nat) (a0_0 : Int) (a0_1 : ByteArray) (A0_2 : Option Addr) (c0_2 : Nat) (l0_2 : List Int) (r : List Int) (w : World) (hr0_2 : Kd.C (Kd.int .i64) w A0_2 l0_2.length l0_2) (hc0_2 : l0_2.length ≤ c0_2) (hG : Glob.G w) (h : graph_keys.f k a0_0 a0_1 l0_2 = some r) :
  Calls Tryz.prog 59 #[.agg #[.int .i64 a0_0, .string a0_1, .slice A0_2 l0_2.length c0_2]] w fun e w' => ∃ v0_ : Value, e = .returned (v0_) ∧ Kd.R (Kd.int .i64) 3 w' w.heap.size (fun _ => True) v0_ r ∧ Below w.heap.size w w' := by
 have hu45 := Tryz.underlying45
 have HR0_2 := Aside0.mk hr0_2
 have HC0_2 := Aside0.mk hc0_2
 clear hr0_2 hc0_2
 have HB := Aside0.mk (Below.refl w.heap.size w)
 have H : (if a0_0 = 6 then (graph_keys.l0 k ([] : List Int) 0 a0_0 a0_1 l0_2) else (some ([] : List Int))) = some r := h
 clear h
 by_cases c2 : a0_0 = 6
 rotate_left
 ·
  rw [if_neg c2] at H
  have c2b0 : (a0_0 == 6) = false := beq_eq_false_iff_ne.mpr c2
  have c2b1 : (a0_0 != 6) = true := bne_iff_ne.mpr c2
  obtain rfl := Option.some.inj H
  go_enter Tryz.func59, Tryz.ntmps59
  go_wp2_with (first | ((with_reducible refine gate_dst (N := 1) rfl ?_); refine box_event ?hg (N := 1) ?hd (cs := #[.int .i64 a0_0, .string a0_1, .slice A0_2 l0_2.length c0_2]) (t := 45) ?hr ?_; (case hd => rfl); (case hg => rfl); (case hr => first | (go_simp; done) | (go_simp; rfl)); intro gb101 hg w12 hbox hb; have n0_ := Aside0.mk (below_step (qza1_) hb); have n1_ := Aside0.mk (hbox); have n2_ := Aside0.mk ((by rw [hg]; exact (below_size (qza1_)) : w.heap.size ≤ gb101)); have n3_ := Aside0.mk ((by rw [hg]; exact (below_size (qza1_)) : w.heap.size ≤ gb101)); clear HB; have HB := n0_; have BK101 := n1_; have GW101 := n2_; have GE101 := n3_; clear n0_ n1_ n2_ n3_; clear hb hbox hg; have hcz13_0 : w12.cell? ⟨gb101, 0, none⟩ = some (.int .i64 a0_0) := (blk_cell BK101.out 0).trans rfl; have hcz13_1 : w12.cell? ⟨gb101, 1, none⟩ = some (.string a0_1) := (blk_cell BK101.out 1).trans rfl; have hcz13_2 : w12.cell? ⟨gb101, 2, none⟩ = some (.slice A0_2 l0_2.length c0_2) := (blk_cell BK101.out 2).trans rfl; have hfz13_0 := blk_frozen BK101.out 0; have hfz13_1 := blk_frozen BK101.out 1; have hfz13_2 := blk_frozen BK101.out 2))
  go_ret
  exact ⟨_, by first | rfl | (simp [errW_none, errW_some] <;> rfl) | (simp [*, errW_none, errW_some] <;> rfl), qza3_, qza0_⟩
 rw [if_pos c2] at H
 have c2b0 : (a0_0 == 6) = true := beq_iff_eq.mpr c2
 have c2b1 : (a0_0 != 6) = false := bne_eq_false_iff_eq.mpr c2
 clear c2
 have H' := Aside0.mk H
 clear H
 go_enter Tryz.func59, Tryz.ntmps59
 go_wp2_with (first | ((with_reducible refine gate_dst (N := 1) rfl ?_); refine box_event ?hg (N := 1) ?hd (cs := #[.int .i64 a0_0, .string a0_1, .slice A0_2 l0_2.length c0_2]) (t := 45) ?hr ?_; (case hd => rfl); (case hg => rfl); (case hr => first | (go_simp; done) | (go_simp; rfl)); intro gb101 hg w3 hbox hb; have n0_ := Aside0.mk (below_step (qza1_) hb); have n1_ := Aside0.mk (hbox); have n2_ := Aside0.mk ((by rw [hg]; exact (below_size (qza1_)) : w.heap.size ≤ gb101)); have n3_ := Aside0.mk ((by rw [hg]; exact (below_size (qza1_)) : w.heap.size ≤ gb101)); clear HB; have HB := n0_; have BK101 := n1_; have GW101 := n2_; have GE101 := n3_; clear n0_ n1_ n2_ n3_; clear hb hbox hg; have hcz4_0 : w3.cell? ⟨gb101, 0, none⟩ = some (.int .i64 a0_0) := (blk_cell BK101.out 0).trans rfl; have hcz4_1 : w3.cell? ⟨gb101, 1, none⟩ = some (.string a0_1) := (blk_cell BK101.out 1).trans rfl; have hcz4_2 : w3.cell? ⟨gb101, 2, none⟩ = some (.slice A0_2 l0_2.length c0_2) := (blk_cell BK101.out 2).trans rfl; have hfz4_0 := blk_frozen BK101.out 0; have hfz4_1 := blk_frozen BK101.out 1; have hfz4_2 := blk_frozen BK101.out 2))
 go_loopg [3, 4] k (fun kq v3 v4 w' => ∃ (x3_1 : List Int) (x4_1 : Int), v4 = .int .i64 x4_1 ∧ Aside0 (graph_keys.l0 kq x3_1 x4_1 a0_0 a0_1 l0_2 = some r) ∧ Aside0 (kq ≤ k) ∧ Aside0 (Kd.R (Kd.int .i64) 3 w' w.heap.size (fun _ => True) v3 x3_1) ∧ Aside0 (w'.heap[gb101]? = some (.cells #[.int .i64 a0_0, .string a0_1, (.slice A0_2 l0_2.length c0_2)] 45 (0, 0))) ∧ Aside0 (Below w.heap.size w w'))
 case atStart => exact ⟨(([] : List Int)), (0), (by first | rfl | (simp; done) | (simp [*]; done)), H', ⟨Nat.le_refl _⟩, ⟨qza3_⟩, ⟨qza2_⟩, ⟨qza0_⟩⟩
 case round =>
  clear H'
  try clear c2
  try clear c2b0
  try clear c2b1
  try clear p2
  try clear hcz4_0
  try clear hcz4_1
  try clear hcz4_2
  try clear hfz4_0
  try clear hfz4_1
  try clear hfz4_2
  obtain ⟨x3_1, x4_1, rfl, HA, HK1, HO_3, BK101, HB⟩ := hrel
  cases gk with
  | zero => exact absurd HA.out (by simp [graph_keys.l0])
  | succ k1 =>
   have H := HA.out
   clear HA
   simp only [graph_keys.l0] at H
   by_cases c5 : (wrap64 (x4_1 + 1)) < (l0_2.length : Int)
   rotate_left
   ·
    rw [if_neg c5] at H
    have c5b0 : decide ((wrap64 (x4_1 + 1)) < (l0_2.length : Int)) = false := decide_eq_false c5
    clear c5
    obtain rfl := Option.some.inj H
    have hcz11_0 : wr.cell? ⟨gb101, 0, none⟩ = some (.int .i64 a0_0) := (blk_cell BK101.out 0).trans rfl
    have hcz11_1 : wr.cell? ⟨gb101, 1, none⟩ = some (.string a0_1) := (blk_cell BK101.out 1).trans rfl
    have hcz11_2 : wr.cell? ⟨gb101, 2, none⟩ = some (.slice A0_2 l0_2.length c0_2) := (blk_cell BK101.out 2).trans rfl
    have hfz11_0 := blk_frozen BK101.out 0
    have hfz11_1 := blk_frozen BK101.out 1
    have hfz11_2 := blk_frozen BK101.out 2
    go_wp2
    go_ret
    exact ⟨_, by first | rfl | (simp [errW_none, errW_some] <;> rfl) | (simp [*, errW_none, errW_some] <;> rfl), by (with_reducible repeat (first | apply Kd.R_alloc | apply Kd.R_drewN | apply Kd.R_drew)); exact HO_3.out, qza0_⟩
   rw [if_pos c5] at H
   have c5b0 : decide ((wrap64 (x4_1 + 1)) < (l0_2.length : Int)) = true := decide_eq_true c5
   clear c5
   by_cases c6 : 0 ≤ x4_1
   rotate_left
   ·
    rw [if_neg c6] at H
    exact absurd H (by simp)
   rw [if_pos c6] at H
   have c6b0 : decide (0 ≤ x4_1) = true := decide_eq_true c6
   clear c6
   by_cases c7 : x4_1 < (l0_2.length : Int)
   rotate_left
   ·
    rw [if_neg c7] at H
    exact absurd H (by simp)
   rw [if_pos c7] at H
   have c7b0 : decide (x4_1 < (l0_2.length : Int)) = true := decide_eq_true c7
   clear c7
   by_cases c8 : x3_1.length < 17592186044416
   rotate_left
   ·
    rw [if_neg c8] at H
    exact absurd H (by simp)
   rw [if_pos c8] at H
   have LMc8 := Aside0.mk c8
   clear c8
   obtain ⟨y103, hy103⟩ : ∃ y_ : List Int, y_ = (x3_1 ++ [rd l0_2 x4_1]) := ⟨_, rfl⟩
   replace H : (graph_keys.l0 k1 y103 (wrap64 (x4_1 + 2)) a0_0 a0_1 l0_2) = some r := by first | (rw [hy103]; with_reducible exact H) | (have H2_ := (Option.bind_some _ _).symm.trans H; rw [hy103]; with_reducible exact H2_) | (have H2_ := (Option.bind_some _ _).symm.trans H; with_reducible exact H2_) | with_reducible exact H | (rw [hy103]; exact H) | exact H
   have Ny103 := Aside0.mk hy103
   clear hy103
   have H' := Aside0.mk H
   clear H
   have hcz9_0 : wr.cell? ⟨gb101, 0, none⟩ = some (.int .i64 a0_0) := (blk_cell BK101.out 0).trans rfl
   have hcz9_1 : wr.cell? ⟨gb101, 1, none⟩ = some (.string a0_1) := (blk_cell BK101.out 1).trans rfl
   have hcz9_2 : wr.cell? ⟨gb101, 2, none⟩ = some (.slice A0_2 l0_2.length c0_2) := (blk_cell BK101.out 2).trans rfl
   have hfz9_0 := blk_frozen BK101.out 0
   have hfz9_1 := blk_frozen BK101.out 1
   have hfz9_2 := blk_frozen BK101.out 2
   have p102 : 0 ≤ (x4_1 : Int) := of_decide_eq_true (by first | (with_reducible assumption) | assumption)
   have q102 : x4_1 < (l0_2.length : Int) := of_decide_eq_true (by first | (with_reducible assumption) | assumption)
   obtain ⟨ad102, e102, hx102_0⟩ := Kd.at_int HR0_2.out x4_1 p102 q102
   cases e102
   replace hx102_0 := (HB.out.cell (World.block_lt_of_cell? w _ hx102_0)).trans hx102_0
   replace p102 := eq_true p102
   replace q102 := eq_true q102
   go_wp2_with (first | ((with_reducible refine gate_builtin (b := .append) (xs := #[.tmp 16, .tmp 22]) rfl ?_); at_builtin; refine Kd.R_append (Kd.int .i64) (w0 := w) w.heap.size rfl (.tmp 16) (.tmp 22) 40 3 (.int .i64 0) 8 rfl Tryz.underlying40 info3 rfl (by decide) (by omega) u3 x3_1 (rd l0_2 x4_1) [.int .i64 (rd l0_2 x4_1)] (fun _ => True) (fun _ => False) rfl rfl ?aP (fun _ hk => hk.elim) ?aF ?aO ?aB ?aS ?aL ?_; (case aP => exact rfl); (case aB => exact (qza0_)); (case aF => exact (fun _ _ => trivial)); (case aO => exact (by (with_reducible repeat (first | apply Kd.R_alloc | apply Kd.R_drewN | apply Kd.R_drew)); exact HO_3.out)); (case aS => exact (below_size (qza0_))); (case aL => have := LMc8.out; omega); intro v104 w10 ho hb hg hat; rw [← Ny103.out] at ho; have n0_ := Aside0.mk (blk_grown (g := gb101) (o := .cells #[.int .i64 a0_0, .string a0_1, .slice (some ad102) l0_2.length c0_2] 45 (0, 0)) (qza2_) hg (Kd.R_ne HO_3.out BK101.out (by decide))); have n1_ := Aside0.mk (hb); have n2_ := Aside0.mk (ho); clear BK101; clear HB; clear HO_3; have BK101 := n0_; have HB := n1_; have HO105 := n2_; clear n0_ n1_ n2_; clear ho hb hg hat))
   go_roundg k1
   case measure => have := HK1.out; omega
   case rel => exact ⟨(y103), (wrap64 (x4_1 + 2)), (by first | rfl | (simp; done) | (simp [*]; done)), H', ⟨by have := HK1.out; omega⟩, ⟨by (with_reducible repeat (first | apply Kd.R_alloc | apply Kd.R_drewN | apply Kd.R_drew)); exact HO105.out⟩, ⟨qza2_⟩, ⟨qza0_⟩⟩
end Go.Proofs.YtiooacmplmcphaaGreatDoor.PX
namespace Go.Proofs.YtiooacmplmcphaaGreatDoor.Mapk
open Go RowKit YtiooacmplmcphaaGreatDoor YtiooacmplmcphaaGreatDoorW.PrintWords Go.Maps
def hl (v : Value) : Option (DataW Value × List MemPlace) := some (.held v, [])
theorem hl_inv {v u : Value} {ps : List MemPlace} (h : hl v = some (.held u, ps)) : v = u := by
  simp only [hl, Option.some.injEq, Prod.mk.injEq, DataW.held.injEq] at h; exact h.1
section
variable {κ : Type} {en : κ → Value}
structure MapIs (P : Program) (k : TypeId) (en : κ → Value) (w : World) (b n : Nat) (F : κ → Option Value) : Prop where
 inj : ∀ x y, en x = en y → x = y
 ex : ∃ D : DataW Value, w.ownsMap P k hl b n D ∧ ∀ x kl, keyOf P k (en x) = some kl → has D kl = (F x).isSome ∧ ∀ z, D.atKey kl (.held z) = .held ((F x).getD z)
variable {P : Program} {k e t : TypeId} {w : World} {b n : Nat} {F : κ → Option Value}
theorem made (w : World) (P : Program) (k : TypeId) (hen : ∀ x y, en x = en y → x = y) : MapIs P k en (w.alloc (.map #[] 0)) w.heap.size 0 (fun _ => none) :=
  ⟨hen, _, World.ownsMap_made w P k hl, fun _ _ _ => ⟨rfl, fun _ => rfl⟩⟩
theorem MapIs.kept {w' : World} {row : Option Nat} (h : MapIs P k en w b n F) (hg : w.grownBy w' row) (hne : some b ≠ row) : MapIs P k en w' b n F := by
  obtain ⟨D, h1, h2⟩ := h.ex; exact ⟨h.inj, D, h1.kept hg hne, h2⟩
theorem MapIs.mono (h : MapIs P k en w b n F) {n' : Nat} (hn : n ≤ n') : MapIs P k en w b n' F := by
  obtain ⟨D, h1, h2⟩ := h.ex; exact ⟨h.inj, D, h1.mono hn, h2⟩
theorem MapIs.lt (h : MapIs P k en w b n F) : b < w.heap.size := by obtain ⟨D, h1, _⟩ := h.ex; exact h1.lt
theorem MapIs.of_block {w' : World} (h : MapIs P k en w b n F) (hb : w'.heap[b]? = w.heap[b]?) : MapIs P k en w' b n F := by
  obtain ⟨D, ⟨es, clock, h1, h3⟩, h2⟩ := h.ex; exact ⟨h.inj, D, ⟨es, clock, hb.trans h1, h3⟩, h2⟩
theorem MapIs.of_below {w' : World} (h : MapIs P k en w b n F) (hb : Below w.heap.size w w') : MapIs P k en w' b n F := h.of_block (hb.block b h.lt)
theorem MapIs.alloc (h : MapIs P k en w b n F) (o : Obj) : MapIs P k en (w.alloc o) b n F := h.of_block (Lib.alloc_old w o b h.lt)
theorem MapIs.look (h : MapIs P k en w b n F) (K : Keyed P k) (ht : P.underlying t = some (.map k e)) {z : Value} (hz : (zeroValue e).run P w = .ok z w) {key : κ} {kl : Lit} (hkey : keyOf P k (en key) = some kl) :
  (Instr.lookup t (.map (some b)) (en key) false).run P w = .ok ((F key).getD z) w := by
 obtain ⟨D, h1, h2⟩ := h.ex
 obtain ⟨v, ps, hr, hv⟩ := h1.lookup K ht hz (zd := .held z) (zp := []) rfl hkey
 rw [(h2 key kl hkey).2 z] at hv
 rw [hr, hl_inv hv]
theorem MapIs.look_ok (h : MapIs P k en w b n F) (K : Keyed P k) (ht : P.underlying t = some (.map k e)) {z : Value} (hz : (zeroValue e).run P w = .ok z w) {key : κ} {kl : Lit} (hkey : keyOf P k (en key) = some kl) :
  (Instr.lookup t (.map (some b)) (en key) true).run P w = .ok (.tuple #[(F key).getD z, .bool (F key).isSome]) w := by
 obtain ⟨D, h1, h2⟩ := h.ex
 obtain ⟨v, ps, hr, hv⟩ := h1.look_ok K ht hz (zd := .held z) (zp := []) rfl hkey
 rw [(h2 key kl hkey).2 z] at hv
 rw [hr, hl_inv hv, (h2 key kl hkey).1]
theorem MapIs.put [DecidableEq κ] (h : MapIs P k en w b n F) (K : Keyed P k) (ht : P.underlying t = some (.map k e)) (hn : n < maxLen) {key : κ} {kl : Lit} (hkey : keyOf P k (en key) = some kl) (v : Value) :
  ∃ w', (Instr.mapUpdate t (.map (some b)) (en key) v).run P w = .ok () w' ∧ MapIs P k en w' b (n + 1) (fun y => if y = key then some v else F y) ∧ w.grownBy w' (some b) := by
 have h0 := h
 obtain ⟨D, h1, h2⟩ := h.ex
 obtain ⟨w', hr, h3, hg⟩ := h1.update K ht hn hkey (d := .held v) (ps := []) rfl
 refine ⟨w', hr, ⟨h.inj, _, h3, fun x kx hx => ?_⟩, hg⟩
 by_cases e1 : x = key
 ·
  subst e1
  have : kx = kl := Option.some.inj (hx.symm.trans hkey)
  subst this
  rw [if_pos rfl]
  exact ⟨has_put_same h1.isMap (K.key hkey) _, fun z => atKey_put_same h1.isMap (K.key hkey) _ _⟩
 rw [if_neg e1]
 have hne : kx ≠ kl := fun h => e1 (h0.inj _ _ (K.inj (h ▸ hx) hkey))
 exact ⟨(has_put_other hne _).trans (h2 x kx hx).1, fun z => (atKey_put_other hne _ _).trans ((h2 x kx hx).2 z)⟩
theorem wpList_look {w : World} {ops : Array Oper} {rest : List Oper} {o : Oper} {a : Act} {Q : Exit → Act → World → Prop}
  (hg : o.guard = none) (m x : Operand) (t : TypeId) (hop : o.op = Op.lookup t m x false) (k e : TypeId) (K : Keyed P k) (ht : P.underlying t = some (.map k e)) (z : Value) (hz : (zeroValue e).run P w = .ok z w)
  (b n : Nat) (F : κ → Option Value) (hm : a.eval m = .map (some b)) (h : MapIs P k en w b n F) (key : κ) (kl : Lit) (hx : a.eval x = en key) (hkey : keyOf P k (en key) = some kl)
  (hK : wpList P ops Q rest (a.put o.dst ((F key).getD z)) w) : wpList P ops Q (o :: rest) a w := by
 refine wpList_plain hg fun K' hK' => ?_
 unfold Oper.wp
 simp [execOp, hop, hm, hx, h.look K ht hz hkey, Result.andThen]
 exact hK' _ _ hK
theorem wpList_put [DecidableEq κ] {w : World} {ops : Array Oper} {rest : List Oper} {o : Oper} {a : Act} {Q : Exit → Act → World → Prop}
  (hg : o.guard = none) (m x v : Operand) (t : TypeId) (hop : o.op = Op.mapUpdate t m x v) (k e : TypeId) (K : Keyed P k) (ht : P.underlying t = some (.map k e))
  (b n : Nat) (F : κ → Option Value) (hm : a.eval m = .map (some b)) (h : MapIs P k en w b n F) (hn : n < maxLen) (key : κ) (val : Value) (kl : Lit) (hx : a.eval x = en key) (hv : a.eval v = val) (hkey : keyOf P k (en key) = some kl)
  (hK : ∀ w', MapIs P k en w' b (n + 1) (fun y => if y = key then some val else F y) → w.grownBy w' (some b) → wpList P ops Q rest (a.put o.dst undef) w') : wpList P ops Q (o :: rest) a w := by
 refine wpList_plain hg fun K' hK' => ?_
 obtain ⟨w', hrun, r1, r2⟩ := h.put K ht hn hkey val
 unfold Oper.wp
 simp [execOp, hop, hm, hx, hv, hrun, Result.andThen]
 exact hK' _ _ (hK w' r1 r2)
end
def kv (x : Int × ByteArray) : Value := .agg #[.int .i64 x.1, .string x.2]
def goodK (x : Int × ByteArray) : Prop := (-9223372036854775808 ≤ x.1 ∧ x.1 ≤ 9223372036854775807) ∧ x.2.size ≤ maxLen
theorem kv_inj {x y : Int × ByteArray} : kv x = kv y ↔ x = y := by
 obtain ⟨a, s⟩ := x; obtain ⟨c, u⟩ := y
 simp [kv]
theorem pair_lits (P : Program) (T a b : TypeId) (fs : Array Field) (hu : P.underlying T = some (.struct fs)) (ha : P.underlying a = some (.int .i64)) (hb : P.underlying b = some .string) (hc : P.cellsOf T = 2) (hca : P.cellsOf a = 1) (hcb : P.cellsOf b = 1)
  (f1 f2 : Field) (hf : fs = #[f1, f2]) (h1 : f1.name ≠ "_") (h2 : f2.name ≠ "_") (ht1 : f1.type = a) (ht2 : f2.type = b) (ho1 : f1.offset = 0) (ho2 : f2.offset = 1)
  (d : Nat) (x : Int × ByteArray) (hx : goodK x) : ∃ ls, P.keyLits (d + 2) T [.int .i64 x.1, .string x.2] = some ls := by
 subst hf ht1 ht2
 obtain ⟨⟨hlo, hhi⟩, hs⟩ := hx
 have hw : (Lit.int .i64 x.1).wf = true := by simp [Lit.wf, IntKind.min, IntKind.max, IntKind.signed, IntKind.bits]; omega
 refine ⟨[.int .i64 x.1, .string x.2.data.toList], ?_⟩
 simp [Program.keyLits, hu, ha, hb, hc, hca, hcb, h1, h2, ho1, ho2, hw, hs]
theorem laid_out : laidOutB Tryz.prog = true := by kernel_rfl
theorem types_two : ∃ d, Tryz.prog.types.size + 1 = d + 2 := by
 have : decide (1 ≤ Tryz.prog.types.size) = true := by kernel_rfl
 have := of_decide_eq_true this
 exact ⟨Tryz.prog.types.size - 1, by omega⟩
theorem gk_deep : Tryz.prog.keyTypeAt (Tryz.prog.types.size + 1) 159 = true := by kernel_rfl
theorem gk_law : Keyed Tryz.prog 159 := Keyed.of_law (deep_law_laid laid_out (m := 2) (by omega) (of_decide_eq_true (by kernel_rfl : decide (159 < Tryz.prog.types.size) = true)) (by kernel_rfl) (by rw [Tryz.underlying159]))
theorem gk_key (x : Int × ByteArray) (hx : goodK x) : ∃ kl, keyOf Tryz.prog 159 (kv x) = some kl := by
 obtain ⟨d, hd⟩ := types_two
 obtain ⟨ls, hl⟩ := pair_lits Tryz.prog 159 3 9 _ Tryz.underlying159 (by kernel_rfl) (by kernel_rfl) (by kernel_rfl) (by kernel_rfl) (by kernel_rfl) _ _ rfl (by decide) (by decide) rfl rfl rfl rfl d x hx
 have hk : Tryz.prog.keyType 159 = true := gk_deep
 have hf : (kv x).formed Tryz.prog 159 = true := by
  have hc : Tryz.prog.cellsOf 159 = 2 := by kernel_rfl
  simp [kv, Value.formed, Tryz.underlying159, hc]
 rw [← hd] at hl
 refine ⟨.string (keyBytes ls), ?_⟩
 simp only [keyOf, Tryz.underlying159, hk, hf, Bool.and_self, if_true]
 have e1 : (kv x).cells.toList = [.int .i64 x.1, .string x.2] := by simp [kv, Value.cells]
 rw [e1, hl]; rfl
theorem ik_deep : Tryz.prog.keyTypeAt (Tryz.prog.types.size + 1) 147 = true := by kernel_rfl
theorem ik_law : Keyed Tryz.prog 147 := Keyed.of_law (deep_law_laid laid_out (m := 2) (by omega) (of_decide_eq_true (by kernel_rfl : decide (147 < Tryz.prog.types.size) = true)) (by kernel_rfl) (by rw [Tryz.underlying147]))
theorem ik_key (x : Int × ByteArray) (hx : goodK x) : ∃ kl, keyOf Tryz.prog 147 (kv x) = some kl := by
 obtain ⟨d, hd⟩ := types_two
 obtain ⟨ls, hl⟩ := pair_lits Tryz.prog 147 3 9 _ Tryz.underlying147 (by kernel_rfl) (by kernel_rfl) (by kernel_rfl) (by kernel_rfl) (by kernel_rfl) _ _ rfl (by decide) (by decide) rfl rfl rfl rfl d x hx
 have hk : Tryz.prog.keyType 147 = true := ik_deep
 have hf : (kv x).formed Tryz.prog 147 = true := by
  have hc : Tryz.prog.cellsOf 147 = 2 := by kernel_rfl
  simp [kv, Value.formed, Tryz.underlying147, hc]
 rw [← hd] at hl
 refine ⟨.string (keyBytes ls), ?_⟩
 simp only [keyOf, Tryz.underlying147, hk, hf, Bool.and_self, if_true]
 have e1 : (kv x).cells.toList = [.int .i64 x.1, .string x.2] := by simp [kv, Value.cells]
 rw [e1, hl]; rfl
end Go.Proofs.YtiooacmplmcphaaGreatDoor.Mapk
namespace Go.Proofs.YtiooacmplmcphaaGreatDoor.Plug
open RowKit YtiooacmplmcphaaGreatDoor YtiooacmplmcphaaGreatDoor.PX YtiooacmplmcphaaGreatDoor.Utf YtiooacmplmcphaaGreatDoor.Mapk YtiooacmplmcphaaGreatDoorW.PrintWords YtiooacmplmcphaaGreatDoorW.PrintLast YtiooacmplmcphaaGreatDoorW.PrintMore
def firstI (p : Int → Bool) : List Int → Nat → Int
 | [], _ => -1
 | x :: r, i => if p x = true then (i : Int) else firstI p r (i + 1)
theorem firstI_any (p : Int → Bool) : ∀ (l : List Int) (i : Nat), decide (firstI p l i ≥ 0) = l.any p
 | [], _ => rfl
 | x :: r, i => by
  rw [firstI, List.any_cons]
  by_cases h : p x = true
  · rw [if_pos h, h]; simp
  rw [if_neg h, firstI_any p r (i + 1)]; simp [h]
set_option maxHeartbeats 2000000 in
set_option maxRecDepth 100000 in
theorem index_any (F : FuncId) (eg : ∀ args w, (callFunc F args).run Tryz.prog w = .ok (.enter F args) w) (fv : Value) (p : Int → Bool) (A : Option Addr) (c : Nat) (xs : List Int) (w : World) (hr : Kd.C (Kd.int .i64) w A xs.length xs)
  (hp : ∀ (x : Int) (w' : World), x ∈ xs → Below w.heap.size w w' → Calls Tryz.prog F #[.int .i64 x, fv] w' fun e w2 => e = .returned (.bool (p x)) ∧ Below w'.heap.size w' w2) :
  Calls Tryz.prog 71 #[.slice A xs.length c, .func (.func F) #[] #[fv]] w fun e w' => e = .returned (.int .i64 (firstI p xs 0)) ∧ Below w.heap.size w w' := by
 have HR := Lib.hid hr
 have hm := hr.2.1
 clear hr
 obtain ⟨R, hR⟩ : ∃ R, firstI p xs 0 = R := ⟨_, rfl⟩
 rw [hR]
 have HP := Lib.hid hp
 clear hp
 go_enter Tryz.func71, Tryz.ntmps71
 go_wp2
 go_loopw [8] (fun v wr => ∃ i : Nat, v = .int .i64 i ∧ i ≤ xs.length ∧ Hid (firstI p (xs.drop i) i = R) ∧ Below w.heap.size w wr) (fun v _ => xs.length - (intOf v).toNat)
 case atStart => exact ⟨0, rfl, by omega, Lib.hid hR, Below.refl _ w⟩
 case round =>
  obtain ⟨i, rfl, hi, hst, hb⟩ := hrel
  by_cases hlt : i < xs.length
  rotate_left
  ·
   have hc : decide ((i : Int) < (xs.length : Int)) = false := by simp; omega
   have hst2 := hst.out
   rw [List.drop_of_length_le (by omega), firstI] at hst2
   have HS := Lib.hid hst2
   clear hst hst2
   go_wp2
   go_ret
   exact ⟨by rw [← HS.out]; first | done | rfl, hb⟩
  have hdrop : xs.drop i = xs[i] :: xs.drop (i + 1) := List.drop_eq_getElem_cons hlt
  have hst2 := hst.out
  rw [hdrop, firstI] at hst2
  have hc : decide ((i : Int) < (xs.length : Int)) = true := by simp; omega
  obtain ⟨ad, rfl, hx⟩ := Kd.at_int HR.out (i : Int) (by omega) (by omega)
  rw [rd_at xs i hlt, Int.toNat_natCast] at hx
  replace hx := (hb.cell (World.block_lt_of_cell? w _ hx)).trans hx
  have p1 : (0 ≤ (i : Int)) = True := eq_true (by omega)
  have p2 : ((i : Int) < (xs.length : Int)) = True := eq_true (by omega)
  have hcall := HP.out xs[i] _ (List.getElem_mem hlt) hb
  generalize xs[i] = x at *
  have HC := Lib.hid hcall
  by_cases hpx : p x = true
  ·
   rw [if_pos hpx] at hst2
   have HS := Lib.hid hst2
   rw [hpx] at HC
   clear hst hst2 hdrop hcall hpx
   go_wp2_with (go_at_fn F; refine HC.out.mono ?_; rintro e w1 ⟨rfl, hb1⟩)
   go_ret
   exact ⟨by rw [← HS.out]; first | done | rfl, hb.trans (hb1.mono hb.size)⟩
  have hpf : p x = false := by simpa using hpx
  rw [if_neg hpx] at hst2
  have HS := Lib.hid hst2
  rw [hpf] at HC
  clear hst hst2 hdrop hcall hpx hpf
  go_wp2_with (go_at_fn F; refine HC.out.mono ?_; rintro e w1 ⟨rfl, hb1⟩)
  go_roundw
  case rel => exact ⟨i + 1, by go_num, by omega, HS, hb.trans (hb1.mono hb.size)⟩
  case measure => simp [intOf]; omega
set_option maxHeartbeats 2000000 in
set_option maxRecDepth 100000 in
theorem contains_any (F : FuncId) (eg : ∀ args w, (callFunc F args).run Tryz.prog w = .ok (.enter F args) w) (fv : Value) (p : Int → Bool) (A : Option Addr) (c : Nat) (xs : List Int) (w : World) (hr : Kd.C (Kd.int .i64) w A xs.length xs)
  (hp : ∀ (x : Int) (w' : World), x ∈ xs → Below w.heap.size w w' → Calls Tryz.prog F #[.int .i64 x, fv] w' fun e w2 => e = .returned (.bool (p x)) ∧ Below w'.heap.size w' w2) :
  Calls Tryz.prog 58 #[.slice A xs.length c, .func (.func F) #[] #[fv]] w fun e w' => e = .returned (.bool (xs.any p)) ∧ Below w.heap.size w w' := by
 have HI := Lib.hid (index_any F eg fv p A c xs w hr hp)
 have HA := Lib.hid (firstI_any p xs 0)
 clear hr hp
 generalize firstI p xs 0 = R at *
 go_enter Tryz.func58, Tryz.ntmps58
 go_wp2_with (go_at_call 71; refine HI.out.mono ?_; rintro e w1 ⟨rfl, hb1⟩)
 go_ret
 exact ⟨by rw [← HA.out]; first | done | rfl, hb1⟩
set_option maxHeartbeats 2000000 in
set_option maxRecDepth 100000 in
theorem far_is (x : Int) (gb : Nat) (A0 : Option Addr) (n c0 : Nat) (root : Int) (w : World) (hbx : w.heap[gb]? = some (.cells #[.slice A0 n c0, .int .i64 root] 24 (0, 0))) :
  Calls Tryz.prog 88 #[.int .i64 x, .pointer (some ⟨gb, 0, none⟩)] w fun e w' => e = .returned (.bool (decide (x < 0) || decide (x ≥ (n : Int)))) ∧ Below w.heap.size w w' := by
 have c0' : w.cell? ⟨gb, 0, none⟩ = some (.slice A0 n c0) := by rw [Lib.cell_of_heap hbx]; rfl
 clear hbx
 go_enter Tryz.func88, Tryz.ntmps88
 by_cases h0 : x < 0
 rotate_left
 ·
  have q0 : decide (x < 0) = false := decide_eq_false h0
  go_wp2
  go_ret
  exact ⟨rfl, Below.refl _ w⟩
 have q0 : decide (x < 0) = true := decide_eq_true h0
 go_wp2
 go_ret
 exact ⟨by rw [q0]; rfl, Below.refl _ w⟩
theorem far_enters : ∀ args w, (callFunc 88 args).run Tryz.prog w = .ok (.enter 88 args) w := fun _ _ => by kernel_rfl
theorem zero_bool (w : World) : (zeroValue 4).run Tryz.prog w = .ok (.bool false) w := by kernel_rfl
theorem grow_alloc {w w2 : World} {o : Obj} {b : Nat} (h : (w.alloc o).grownBy w2 (some b)) : w.grownBy w2 (some b) :=
  ⟨h.os, h.tape, h.output, by have h2 := h.size; simp at h2; omega, fun k hk hne => (h.block k (by simp; omega) hne).trans (Lib.alloc_old w _ k hk)⟩
set_option maxHeartbeats 2000000 in
set_option maxRecDepth 100000 in
theorem add_is (b n : Nat) (F : Int × ByteArray → Option Value) (x : Int × ByteArray) (hx : goodK x) (w : World) (hm : MapIs Tryz.prog 159 kv w b n F) (hn : n < maxLen) (was : Bool) (hF : (F x).getD (.bool false) = .bool was) :
  Calls Tryz.prog 89 #[.map (some b), kv x] w fun e w' => e = .returned (.bool (!was)) ∧ MapIs Tryz.prog 159 kv w' b (n + 1) (fun y => if y = x then some (.bool true) else F y) ∧ w.grownBy w' (some b) := by
 obtain ⟨kl, hk⟩ := gk_key x hx
 obtain ⟨a, s⟩ := x
 have HK := Lib.hid hk
 have HM := Lib.hid hm
 have HF := Lib.hid hF
 clear hk hx hm hF
 rw [show kv (a, s) = .agg #[.int .i64 a, .string s] from rfl]
 go_enter Tryz.func89, Tryz.ntmps89
 go_wp2_with (first | (at_lookup; refine wpList_look rfl _ _ 157 rfl 159 4 gk_law Tryz.underlying157 (.bool false) (zero_bool _) b n F rfl (HM.out.alloc _) (a, s) kl rfl HK.out ?_; rw [HF.out]) | (at_mapUpdate; refine wpList_put rfl _ _ _ 157 rfl 159 4 gk_law Tryz.underlying157 b n F rfl (HM.out.alloc _) hn (a, s) (.bool true) kl rfl rfl HK.out ?_; intro w2 hm2 hg2))
 go_ret
 exact ⟨rfl, hm2, grow_alloc hg2⟩
def keyIs (l : List S45) (k : Int) : Int × ByteArray := ((rd_T45 l k).f0, (rd_T45 l k).f1)
def scB (k : Int) : Bool := decide (1 ≤ k) && decide (k ≤ 4)
def metB (l : List S45) : List Int → List (Int × ByteArray) → Bool
 | [], _ => true
 | k :: ks, met => if scB (rd_T45 l k).f0 = true then (if met.any (fun y => decide (y = keyIs l k)) = true then false else metB l ks (keyIs l k :: met)) else false
def farB (l : List S45) (k : Int) : Bool := decide (k < 0) || decide (k ≥ (l.length : Int))
def nodeB (l : List S45) (n : S45) (tx : Bool) (ks : List Int) : Bool :=
 if n.f0 < 1 then false else if 6 < n.f0 then false else if tx = false then false
 else if ((scB n.f0 && decide (0 < n.f2.length)) || (n.f0 == 6 && n.f2.length % 2 != 0)) = true then false
 else if n.f2.any (farB l) = true then false else metB l ks []
structure Bx (gb nb : Nat) (A0 : Option Addr) (n0 c0 : Nat) (root kd : Int) (tt : ByteArray) (A2 : Option Addr) (n2 c2 : Nat) (w : World) : Prop where
 g : w.heap[gb]? = some (.cells #[.slice A0 n0 c0, .int .i64 root] 24 (0, 0))
 n : w.heap[nb]? = some (.cells #[.int .i64 kd, .string tt, .slice A2 n2 c2] 45 (0, 0))
section
variable {gb nb : Nat} {A0 : Option Addr} {n0 c0 : Nat} {root kd : Int} {tt : ByteArray} {A2 : Option Addr} {n2 c2 : Nat} {w w' : World}
theorem Bx.cells (h : Bx gb nb A0 n0 c0 root kd tt A2 n2 c2 w) : w.cell? ⟨gb, 0, none⟩ = some (.slice A0 n0 c0) ∧ w.cell? ⟨gb, 1, none⟩ = some (.int .i64 root) ∧ w.cell? ⟨nb, 0, none⟩ = some (.int .i64 kd) ∧ w.cell? ⟨nb, 1, none⟩ = some (.string tt) ∧ w.cell? ⟨nb, 2, none⟩ = some (.slice A2 n2 c2) :=
  ⟨(blk_cell h.g 0).trans rfl, (blk_cell h.g 1).trans rfl, (blk_cell h.n 0).trans rfl, (blk_cell h.n 1).trans rfl, (blk_cell h.n 2).trans rfl⟩
theorem Bx.below (h : Bx gb nb A0 n0 c0 root kd tt A2 n2 c2 w) (hb : Below w.heap.size w w') : Bx gb nb A0 n0 c0 root kd tt A2 n2 c2 w' :=
  ⟨(hb.block gb (blk_lt h.g)).trans h.g, (hb.block nb (blk_lt h.n)).trans h.n⟩
theorem Bx.grown {b : Nat} (h : Bx gb nb A0 n0 c0 root kd tt A2 n2 c2 w) (hg : w.grownBy w' (some b)) (h1 : gb ≠ b) (h2 : nb ≠ b) : Bx gb nb A0 n0 c0 root kd tt A2 n2 c2 w' :=
  ⟨(hg.block gb (blk_lt h.g) (fun e => h1 (Option.some.inj e))).trans h.g, (hg.block nb (blk_lt h.n) (fun e => h2 (Option.some.inj e))).trans h.n⟩
end
theorem nodeB_on (l : List S45) (kd : Int) (tt : ByteArray) (kids ks : List Int) (h1 : ¬ kd < 1) (h2 : ¬ 6 < kd) (h3 : ((scB kd && decide (0 < kids.length)) || (kd == 6 && kids.length % 2 != 0)) = false) :
  nodeB l ⟨kd, tt, kids⟩ true ks = (if kids.any (farB l) = true then false else metB l ks []) := by
 unfold nodeB
 rw [if_neg h1, if_neg h2, if_neg (by simp), if_neg (by rw [h3]; simp)]
theorem rd_mem (l : List S45) (k : Int) (h0 : 0 ≤ k) (h1 : k < (l.length : Int)) : rd_T45 l k ∈ l := by
 unfold rd_T45
 rw [List.getD_eq_getElem?_getD, List.getElem?_eq_getElem (by omega : k.toNat < l.length)]
 exact List.getElem_mem _
theorem below_of_grown {w w' : World} {b B : Nat} (h : w.grownBy w' (some b)) (hb : B ≤ b) (hw : B ≤ w.heap.size) : Below B w w' :=
  ⟨h.os, h.tape, h.output, h.size, fun k hk => h.block k (by omega) (fun e => by have := Option.some.inj e; omega)⟩
theorem keep_of_grown {w w' : World} {b : Nat} (h : w.grownBy w' (some b)) : KeepBut w w' b none :=
  ⟨h.size, fun k hk hne _ => h.block k hk (fun e => hne (Option.some.inj e))⟩
theorem scal_of (k : Int) : graph_isScalar.f k = some (scB k) := by
 unfold graph_isScalar.f scB
 by_cases h : (1 : Int) ≤ k
 · rw [if_pos h, decide_eq_true h, Bool.true_and]
 rw [if_neg h, decide_eq_false h, Bool.false_and]
def metF (met : List (Int × ByteArray)) (y : Int × ByteArray) : Option Value := if met.any (fun z => decide (z = y)) = true then some (.bool true) else none
theorem metF_cons (x : Int × ByteArray) (met : List (Int × ByteArray)) : (fun y => if y = x then some (.bool true) else metF met y) = metF (x :: met) := by
 funext y
 unfold metF
 rw [List.any_cons]
 by_cases e : y = x
 · subst e; simp
 rw [if_neg e, decide_eq_false (fun h => e h.symm), Bool.false_or]
theorem metF_was (x : Int × ByteArray) (met : List (Int × ByteArray)) : (metF met x).getD (.bool false) = .bool (met.any (fun z => decide (z = x))) := by
 unfold metF
 by_cases h : met.any (fun z => decide (z = x)) = true
 · rw [if_pos h, h]; rfl
 rw [if_neg h, Bool.eq_false_iff.2 h]; rfl
set_option maxHeartbeats 8000000 in
set_option maxRecDepth 100000 in
theorem isNode_on (K1 K2 : Nat) (A0 : Option Addr) (c0 : Nat) (l : List S45) (root : Int) (kd : Int) (tt : ByteArray) (kids : List Int) (A2 : Option Addr) (c2 : Nat) (ks : List Int) (R : Bool) (w : World)
    (HR : Hid (Kd.C k45 w A0 l.length l)) (H2 : Hid (Kd.C (Kd.int .i64) w A2 kids.length kids)) (hc2 : kids.length ≤ c2) (hG : Glob.G w)
    (HT : Hid (graph_isText.f K1 kd tt = some true)) (HK : Hid (graph_keys.f K2 kd tt kids = some ks)) (HZ : Hid (∀ m ∈ l, m.f1.size ≤ 1099511627776)) (hkl : ks.length ≤ 1099511627776) (HN : Hid (∀ k ∈ ks, k ∈ kids))
    (q1 : decide (kd < 1) = false) (q2 : decide (6 < kd) = false) (hcase : (scB kd = true ∧ kids.length = 0) ∨ (scB kd = false ∧ (kd == 6) = true ∧ kids.length % 2 = 0) ∨ (scB kd = false ∧ (kd == 6) = false))
    (hR : (if kids.any (farB l) = true then false else metB l ks []) = R) :
    Calls Tryz.prog 57 #[.agg #[.slice A0 l.length c0, .int .i64 root], .agg #[.int .i64 kd, .string tt, .slice A2 kids.length c2]] w fun e w' => e = .returned (.bool R) ∧ Below w.heap.size w w' := by
  have q3 : decide (kd > 6) = false := q2
  by_cases hA : kids.any (farB l) = true
  · have HA := Lib.hid hA
    have HF : Hid (R = false) := Lib.hid (by rw [← hR, if_pos hA])
    clear hA hR
    rcases hcase with ⟨hsc, kl⟩ | ⟨hsc, q4, ko⟩ | ⟨hsc, q4⟩
    case' inl =>
      have q4 : (kd == 6) = false := by unfold scB at hsc; rw [Bool.and_eq_true, decide_eq_true_eq, decide_eq_true_eq] at hsc; exact beq_eq_false_iff_ne.2 (by omega)
      have q5 : decide ((0 : Int) < (kids.length : Int)) = false := decide_eq_false (by omega)
      have q6 : decide (0 < kids.length) = false := decide_eq_false (by omega)
      clear kl
    case' inr.inl => have q7 : (kids.length : Int).tmod 2 = 0 := by { rw [Int.tmod_eq_emod_of_nonneg (by omega)]; omega }
    all_goals
      have HS := Lib.hid (scal_of kd)
      rw [hsc] at HS
      clear hsc
      go_enter Tryz.func57, Tryz.ntmps57
      go_wp2_with (first | ((with_reducible refine gate_dst (N := 2) rfl ?_); refine box_event ?hg (N := 2) ?hd (cs := #[.slice A0 l.length c0, .int .i64 root]) (t := 24) ?hr ?_; (case hd => rfl); (case hg => rfl); (case hr => first | (go_simp; done) | (go_simp; rfl)); intro gb hg w1 hgb hb1; have HG1 := Lib.hid hgb; have HB1 := Lib.hid hb1; have HE1 := Lib.hid hg; clear hgb hb1 hg) | ((with_reducible refine gate_dst (N := 3) rfl ?_); refine box_event ?hg (N := 3) ?hd (cs := #[.int .i64 kd, .string tt, .slice A2 kids.length c2]) (t := 45) ?hr ?_; (case hd => rfl); (case hg => rfl); (case hr => first | (go_simp; done) | (go_simp; rfl)); intro nb hn w2 hnb hb2; have HX := Lib.hid (Bx.mk ((hb2.block gb (blk_lt HG1.out)).trans HG1.out) hnb); have HB2 := Lib.hid (HB1.out.trans (hb2.mono HB1.out.size)); have HE2 := Lib.hid hn; clear hnb hb2 hn HG1; obtain ⟨x0, x1, x2, x3, x4⟩ := HX.out.cells) | (go_at_call 86; refine (graph_isText.calls _ _ _ _ _ (hG.below HB2.out) HT.out).mono ?_; rintro e w3 ⟨rfl, hb3⟩; have HX3 := Lib.hid (HX.out.below hb3); have HB3 := Lib.hid (HB2.out.trans (hb3.mono HB2.out.size)); clear hb3 HX HB2 x0 x1 x2 x3 x4; obtain ⟨x0, x1, x2, x3, x4⟩ := HX3.out.cells) | (go_at_call 87; refine (graph_isScalar.calls _ _ _ (hG.below HB3.out) HS.out).mono ?_; rintro e w4 ⟨rfl, hd4⟩; have HX4 := Lib.hid (HX3.out.below hd4.below); have HB4 := Lib.hid (HB3.out.trans (hd4.below.mono HB3.out.size)); clear hd4 HX3 HB3 x0 x1 x2 x3 x4; obtain ⟨x0, x1, x2, x3, x4⟩ := HX4.out.cells) | (go_at_call 58; refine (contains_any 88 far_enters _ (farB l) A2 c2 kids _ (Kd.C_below H2.out HB4.out) (fun x w' _ hb => far_is x gb A0 l.length c0 root w' (HX4.out.below hb).g)).mono ?_; rw [HA.out]; rintro e w5 ⟨rfl, hb5⟩; have HX5 := Lib.hid (HX4.out.below hb5); have HB5 := Lib.hid (HB4.out.trans (hb5.mono HB4.out.size)); clear hb5 HX4 HB4 x0 x1 x2 x3 x4; obtain ⟨x0, x1, x2, x3, x4⟩ := (HX5.out.below (below_alloc (Below.refl _ _) (.map #[] 0))).cells))
      go_ret
      exact ⟨by rw [HF.out]; first | done | rfl, HB5.out⟩
  · have hf : kids.any (farB l) = false := Bool.eq_false_iff.2 hA
    have HA := Lib.hid hf
    have HM := Lib.hid (show metB l ks [] = R by rw [← hR, if_neg hA])
    have HIN := Lib.hid (show ∀ k ∈ ks, 0 ≤ k ∧ k < (l.length : Int) from fun k hk => by
      have h := List.any_eq_false.1 hf k (HN.out k hk)
      simp [farB] at h
      exact h)
    clear hA hR hf HN
    rcases hcase with ⟨hsc, kl⟩ | ⟨hsc, q4, ko⟩ | ⟨hsc, q4⟩
    case' inl =>
      have q4 : (kd == 6) = false := by unfold scB at hsc; rw [Bool.and_eq_true, decide_eq_true_eq, decide_eq_true_eq] at hsc; exact beq_eq_false_iff_ne.2 (by omega)
      have q5 : decide ((0 : Int) < (kids.length : Int)) = false := decide_eq_false (by omega)
      have q6 : decide (0 < kids.length) = false := decide_eq_false (by omega)
      clear kl
    case' inr.inl => have q7 : (kids.length : Int).tmod 2 = 0 := by { rw [Int.tmod_eq_emod_of_nonneg (by omega)]; omega }
    all_goals
      have HS := Lib.hid (scal_of kd)
      rw [hsc] at HS
      clear hsc
      go_enter Tryz.func57, Tryz.ntmps57
      have hmm := @run_makeMap Tryz.prog
      go_wp2_with (first | ((with_reducible refine gate_dst (N := 2) rfl ?_); refine box_event ?hg (N := 2) ?hd (cs := #[.slice A0 l.length c0, .int .i64 root]) (t := 24) ?hr ?_; (case hd => rfl); (case hg => rfl); (case hr => first | (go_simp; done) | (go_simp; rfl)); intro gb hg w1 hgb hb1; have HG1 := Lib.hid hgb; have HB1 := Lib.hid hb1; have HE1 := Lib.hid hg; clear hgb hb1 hg) | ((with_reducible refine gate_dst (N := 3) rfl ?_); refine box_event ?hg (N := 3) ?hd (cs := #[.int .i64 kd, .string tt, .slice A2 kids.length c2]) (t := 45) ?hr ?_; (case hd => rfl); (case hg => rfl); (case hr => first | (go_simp; done) | (go_simp; rfl)); intro nb hn w2 hnb hb2; have HX := Lib.hid (Bx.mk ((hb2.block gb (blk_lt HG1.out)).trans HG1.out) hnb); have HB2 := Lib.hid (HB1.out.trans (hb2.mono HB1.out.size)); have HE2 := Lib.hid hn; clear hnb hb2 hn HG1; obtain ⟨x0, x1, x2, x3, x4⟩ := HX.out.cells) | (go_at_call 86; refine (graph_isText.calls _ _ _ _ _ (hG.below HB2.out) HT.out).mono ?_; rintro e w3 ⟨rfl, hb3⟩; have HX3 := Lib.hid (HX.out.below hb3); have HB3 := Lib.hid (HB2.out.trans (hb3.mono HB2.out.size)); clear hb3 HX HB2 x0 x1 x2 x3 x4; obtain ⟨x0, x1, x2, x3, x4⟩ := HX3.out.cells) | (go_at_call 87; refine (graph_isScalar.calls _ _ _ (hG.below HB3.out) HS.out).mono ?_; rintro e w4 ⟨rfl, hd4⟩; have HX4 := Lib.hid (HX3.out.below hd4.below); have HB4 := Lib.hid (HB3.out.trans (hd4.below.mono HB3.out.size)); clear hd4 HX3 HB3 x0 x1 x2 x3 x4; obtain ⟨x0, x1, x2, x3, x4⟩ := HX4.out.cells) | (go_at_call 58; refine (contains_any 88 far_enters _ (farB l) A2 c2 kids _ (Kd.C_below H2.out HB4.out) (fun x w' _ hb => far_is x gb A0 l.length c0 root w' (HX4.out.below hb).g)).mono ?_; rw [HA.out]; rintro e w5 ⟨rfl, hb5⟩; have HX5 := Lib.hid (HX4.out.below hb5); have HB5 := Lib.hid (HB4.out.trans (hb5.mono HB4.out.size)); clear hb5 HX4 HB4 x0 x1 x2 x3 x4; obtain ⟨x0, x1, x2, x3, x4⟩ := (HX5.out.below (below_alloc (Below.refl _ _) (.map #[] 0))).cells) | (go_at_call 59; refine (graph_keys.calls _ _ _ _ _ _ _ _ (Kd.C_below H2.out (below_alloc HB5.out _)) hc2 (hG.below (below_alloc HB5.out _)) HK.out).mono ?_; rintro e w6 ⟨v, rfl, hv, hb6⟩; obtain ⟨Ak, ck, ek⟩ := Kd.R_slice hv; subst ek; have HMP := Lib.hid ((made w5 Tryz.prog 159 (fun a b => kv_inj.1)).of_below hb6); have HX6 := Lib.hid ((HX5.out.below (below_alloc (Below.refl _ _) _)).below hb6); have HB6 := Lib.hid ((below_alloc HB5.out _).trans (hb6.mono (below_alloc HB5.out _).size)); have HKC := Lib.hid (Kd.C_foot_own (Kd.R_bound hv) (g := w5.heap.size) (fun k hk => by have h := hk.2.1; simp at h; omega)); have HGN := Lib.hid (And.intro (blk_lt HX5.out.g) (And.intro (blk_lt HX5.out.n) HB5.out.size)); clear hv hb6 HX5 HB5 x0 x1 x2 x3 x4))
      generalize hbm : w5.heap.size = bm at *
      clear hbm hmm HS
      go_loopw [54] (fun v wr => ∃ (i : Nat) (met : List (Int × ByteArray)), v = .int .i64 i ∧ i ≤ ks.length ∧ Hid (metB l (ks.drop i) met = R) ∧ Hid (MapIs Tryz.prog 159 kv wr bm i (metF met)) ∧ Hid (Below w.heap.size w wr) ∧ Hid (Bx gb nb A0 l.length c0 root kd tt A2 kids.length c2 wr) ∧ Hid (KeepBut w6 wr bm none)) (fun v _ => ks.length - (intOf v).toNat)
      case atStart => exact ⟨0, [], rfl, by omega, HM, HMP, HB6, HX6, Lib.hid (KeepBut.refl _ _ _)⟩
      case round =>
        obtain ⟨i, met, rfl, hi, hst, HMR, HBR, HXR, HKR⟩ := hrel
        clear HMP HB6 HX6 HM
        obtain ⟨x0, x1, x2, x3, x4⟩ := HXR.out.cells
        by_cases hlt : i < ks.length
        · have hc : decide ((i : Int) < (ks.length : Int)) = true := by simp; omega
          obtain ⟨ad, rfl, hx⟩ := Kd.at_int (HKC.out wr HKR.out) (i : Int) (by omega) (by omega)
          rw [rd_at ks i hlt, Int.toNat_natCast] at hx
          obtain ⟨j0, j1⟩ := HIN.out ks[i] (List.getElem_mem hlt)
          have hst2 := hst.out
          rw [List.drop_eq_getElem_cons hlt, metB] at hst2
          generalize ks[i] = k at *
          obtain ⟨bd, A3, c3, rfl, y0, y1, _, _, _⟩ := at_T45 (Kd.C_below HR.out HBR.out) k j0 j1
          have p1 : (0 ≤ (i : Int)) = True := eq_true (by omega)
          have p2 : ((i : Int) < (ks.length : Int)) = True := eq_true (by omega)
          have p3 : (0 ≤ k) = True := eq_true j0
          have p4 : (k < (l.length : Int)) = True := eq_true j1
          have hsz := HZ.out _ (rd_mem l k j0 j1)
          have hki : keyIs l k = ((rd_T45 l k).f0, (rd_T45 l k).f1) := rfl
          rw [hki] at hst2
          clear hki
          generalize (rd_T45 l k).f0 = a at *
          generalize (rd_T45 l k).f1 = s at *
          have HST := Lib.hid hst2
          clear hst hst2
          go_wp2_with (fail)
          have hal : Below wr.heap.size wr (wr.alloc (.cells #[.int .i64 0, .string ⟨#[]⟩] 159 (0, 0))) := below_alloc (Below.refl _ _) _
          obtain ⟨u0, u1, u2, u3, u4⟩ := (HXR.out.below hal).cells
          have v0 := (hal.cell (World.block_lt_of_cell? wr _ y0)).trans y0
          have v1 := (hal.cell (World.block_lt_of_cell? wr _ y1)).trans y1
          clear hal
          go_region
          have hb8 : Below wr.heap.size wr (World.drew (wr.alloc (.cells #[.int .i64 a, .string s] 159 (0, 0)))) := below_drew1 (below_alloc (Below.refl _ _) _)
          have hk8 : (World.drew (wr.alloc (.cells #[.int .i64 a, .string s] 159 (0, 0)))).heap[wr.heap.size]? = some (.cells #[.int .i64 a, .string s] 159 (0, 0)) := blk_new wr _
          generalize World.drew _ = w8 at hb8 hk8 ⊢
          have HB8 := Lib.hid (HBR.out.trans (hb8.mono HBR.out.size))
          have HM8 := Lib.hid (HMR.out.of_below hb8)
          have HX8 := Lib.hid (HXR.out.below hb8)
          have HK8 := Lib.hid (HKR.out.trans (KeepBut.of_below hb8 bm none) (.inl rfl))
          have h80 := (blk_cell hk8 0).trans rfl
          have h81 := (blk_cell hk8 1).trans rfl
          clear hb8 hk8 HBR HMR HXR HKR x0 x1 x2 x3 x4 y0 y1 u0 u1 u2 u3 u4 v0 v1 hx
          have HSC := Lib.hid (scal_of a)
          by_cases hs : scB a = true
          · rw [hs] at HSC
            have hgd : goodK (a, s) := by
              unfold scB at hs
              rw [Bool.and_eq_true, decide_eq_true_eq, decide_eq_true_eq] at hs
              exact ⟨by dsimp only; omega, by unfold maxLen; dsimp only; omega⟩
            have HGD := Lib.hid hgd
            obtain ⟨was, hw⟩ : ∃ b, met.any (fun z => decide (z = (a, s))) = b := ⟨_, rfl⟩
            have HW := Lib.hid (show (metF met (a, s)).getD (.bool false) = .bool was by rw [metF_was, hw])
            have HS2 := HST.out
            rw [if_pos hs, hw] at HS2
            have HST := Lib.hid HS2
            clear HS2 hs hgd hw hsz
            cases was with
            | true =>
              have HF : Hid (R = false) := Lib.hid (by have h := HST.out; rw [if_pos rfl] at h; exact h.symm)
              clear HST
              go_wp2_with (first | (go_at_call 87; refine (graph_isScalar.calls _ _ _ (hG.below HB8.out) HSC.out).mono ?_; rintro e w9 ⟨rfl, ⟨nd, rfl⟩⟩) | (go_at_call 89; refine (add_is bm i (metF met) (a, s) HGD.out _ (HM8.out.of_block (w' := w8.drewN nd) rfl) (by unfold maxLen; omega) _ HW.out).mono ?_; rintro e w10 ⟨rfl, hm10, hg9⟩; have hg10 : w8.grownBy w10 (some bm) := ⟨hg9.os, hg9.tape, hg9.output, hg9.size, hg9.block⟩; have HB10 := Lib.hid (HB8.out.trans (below_of_grown hg10 HGN.out.2.2 HB8.out.size)); clear hm10 hg10 hg9))
              go_ret
              exact ⟨by rw [HF.out]; first | done | rfl, HB10.out⟩
            | false =>
              have HF : Hid (metB l (ks.drop (i + 1)) ((a, s) :: met) = R) := Lib.hid (by have h := HST.out; rw [if_neg Bool.false_ne_true] at h; exact h)
              clear HST
              go_wp2_with (first | (go_at_call 87; refine (graph_isScalar.calls _ _ _ (hG.below HB8.out) HSC.out).mono ?_; rintro e w9 ⟨rfl, ⟨nd, rfl⟩⟩) | (go_at_call 89; refine (add_is bm i (metF met) (a, s) HGD.out _ (HM8.out.of_block (w' := w8.drewN nd) rfl) (by unfold maxLen; omega) _ HW.out).mono ?_; rintro e w10 ⟨rfl, hm10, hg9⟩; have hg10 : w8.grownBy w10 (some bm) := ⟨hg9.os, hg9.tape, hg9.output, hg9.size, hg9.block⟩; rw [metF_cons] at hm10; have HB10 := Lib.hid (HB8.out.trans (below_of_grown hg10 HGN.out.2.2 HB8.out.size)); have HM10 := Lib.hid hm10; have HX10 := Lib.hid (HX8.out.grown hg10 (Nat.ne_of_lt HGN.out.1) (Nat.ne_of_lt HGN.out.2.1)); have HK10 := Lib.hid (HK8.out.trans (keep_of_grown hg10) (.inl rfl)); clear hm10 hg10 hg9))
              go_roundw
              case rel => exact ⟨i + 1, (a, s) :: met, by go_num, by omega, HF, HM10, HB10, HX10, HK10⟩
              case measure => simp [intOf]; omega
          · have hs' : scB a = false := Bool.eq_false_iff.2 hs
            have HF : Hid (R = false) := Lib.hid (by have h := HST.out; rw [if_neg hs] at h; exact h.symm)
            rw [hs'] at HSC
            clear hs hs' HST
            go_wp2_with (go_at_call 87; refine (graph_isScalar.calls _ _ _ (hG.below HB8.out) HSC.out).mono ?_; rintro e w9 ⟨rfl, ⟨nd, rfl⟩⟩)
            go_ret
            exact ⟨by rw [HF.out]; first | done | rfl, pw_below_drewN HB8.out nd⟩
        · have hc : decide ((i : Int) < (ks.length : Int)) = false := by simp; omega
          have hst2 := hst.out
          rw [List.drop_of_length_le (by omega), metB] at hst2
          have HF := Lib.hid hst2
          clear hst hst2
          go_wp2
          go_ret
          exact ⟨by rw [← HF.out]; first | done | rfl, HBR.out⟩
set_option maxHeartbeats 8000000 in
set_option maxRecDepth 100000 in
theorem isNode_is (K1 K2 : Nat) (A0 : Option Addr) (c0 : Nat) (l : List S45) (root : Int) (n : S45) (A2 : Option Addr) (c2 : Nat) (tx : Bool) (ks : List Int) (w : World)
  (hr : Kd.C k45 w A0 l.length l) (_hc : l.length ≤ c0) (h2 : Kd.C (Kd.int .i64) w A2 n.f2.length n.f2) (hc2 : n.f2.length ≤ c2) (hG : Glob.G w)
  (hT : 1 ≤ n.f0 → n.f0 ≤ 6 → graph_isText.f K1 n.f0 n.f1 = some tx) (hks : graph_keys.f K2 n.f0 n.f1 n.f2 = some ks) (hsz : ∀ m ∈ l, m.f1.size ≤ 1099511627776) (hkl : ks.length ≤ 1099511627776) (hin : ∀ k ∈ ks, k ∈ n.f2) :
  Calls Tryz.prog 57 #[.agg #[.slice A0 l.length c0, .int .i64 root], .agg #[.int .i64 n.f0, .string n.f1, .slice A2 n.f2.length c2]] w fun e w' => e = .returned (.bool (nodeB l n tx ks)) ∧ Below w.heap.size w w' := by
 obtain ⟨kd, tt, kids⟩ := n
 dsimp only at h2 hT hks hin ⊢
 have HR := Lib.hid hr
 have H2 := Lib.hid h2
 have HK := Lib.hid hks
 have HT := Lib.hid hT
 have HZ := Lib.hid hsz
 have HN := Lib.hid hin
 clear hr h2 hks hT hsz hin _hc
 obtain ⟨R, hR⟩ : ∃ R, nodeB l ⟨kd, tt, kids⟩ tx ks = R := ⟨_, rfl⟩
 rw [hR]
 have HR2 := Lib.hid hR
 clear hR
 by_cases k1 : kd < 1
 ·
  have HF : Hid (R = false) := Lib.hid (by rw [← HR2.out]; simp [nodeB, k1])
  have q1 : decide (kd < 1) = true := decide_eq_true k1
  go_enter Tryz.func57, Tryz.ntmps57
  go_wp2_with (first | ((with_reducible refine gate_dst (N := 2) rfl ?_); refine box_event ?hg (N := 2) ?hd (cs := #[.slice A0 l.length c0, .int .i64 root]) (t := 24) ?hr ?_; (case hd => rfl); (case hg => rfl); (case hr => first | (go_simp; done) | (go_simp; rfl)); intro gb hg w1 hgb hb1; have HG1 := Lib.hid hgb; have HB1 := Lib.hid hb1; have HE1 := Lib.hid hg; clear hgb hb1 hg) | ((with_reducible refine gate_dst (N := 3) rfl ?_); refine box_event ?hg (N := 3) ?hd (cs := #[.int .i64 kd, .string tt, .slice A2 kids.length c2]) (t := 45) ?hr ?_; (case hd => rfl); (case hg => rfl); (case hr => first | (go_simp; done) | (go_simp; rfl)); intro nb hn w2 hnb hb2; have HX := Lib.hid (Bx.mk ((hb2.block gb (blk_lt HG1.out)).trans HG1.out) hnb); have HB2 := Lib.hid (HB1.out.trans (hb2.mono HB1.out.size)); have HE2 := Lib.hid hn; clear hnb hb2 hn HG1; obtain ⟨x0, x1, x2, x3, x4⟩ := HX.out.cells))
  go_ret
  exact ⟨by rw [HF.out]; first | done | rfl, HB2.out⟩
 have q1 : decide (kd < 1) = false := decide_eq_false k1
 by_cases k6 : 6 < kd
 ·
  have HF : Hid (R = false) := Lib.hid (by rw [← HR2.out]; simp [nodeB, k1, k6])
  have q2 : decide (6 < kd) = true := decide_eq_true k6
  have q3 : decide (kd > 6) = true := decide_eq_true k6
  go_enter Tryz.func57, Tryz.ntmps57
  go_wp2_with (first | ((with_reducible refine gate_dst (N := 2) rfl ?_); refine box_event ?hg (N := 2) ?hd (cs := #[.slice A0 l.length c0, .int .i64 root]) (t := 24) ?hr ?_; (case hd => rfl); (case hg => rfl); (case hr => first | (go_simp; done) | (go_simp; rfl)); intro gb hg w1 hgb hb1; have HG1 := Lib.hid hgb; have HB1 := Lib.hid hb1; have HE1 := Lib.hid hg; clear hgb hb1 hg) | ((with_reducible refine gate_dst (N := 3) rfl ?_); refine box_event ?hg (N := 3) ?hd (cs := #[.int .i64 kd, .string tt, .slice A2 kids.length c2]) (t := 45) ?hr ?_; (case hd => rfl); (case hg => rfl); (case hr => first | (go_simp; done) | (go_simp; rfl)); intro nb hn w2 hnb hb2; have HX := Lib.hid (Bx.mk ((hb2.block gb (blk_lt HG1.out)).trans HG1.out) hnb); have HB2 := Lib.hid (HB1.out.trans (hb2.mono HB1.out.size)); have HE2 := Lib.hid hn; clear hnb hb2 hn HG1; obtain ⟨x0, x1, x2, x3, x4⟩ := HX.out.cells))
  go_ret
  exact ⟨by rw [HF.out]; first | done | rfl, HB2.out⟩
 have q2 : decide (6 < kd) = false := decide_eq_false k6
 have q3 : decide (kd > 6) = false := decide_eq_false k6
 replace HT := Lib.hid (HT.out (by omega) (by omega))
 cases tx with
 | false =>
  have HF : Hid (R = false) := Lib.hid (by rw [← HR2.out]; simp [nodeB, k1, k6])
  go_enter Tryz.func57, Tryz.ntmps57
  go_wp2_with (first | ((with_reducible refine gate_dst (N := 2) rfl ?_); refine box_event ?hg (N := 2) ?hd (cs := #[.slice A0 l.length c0, .int .i64 root]) (t := 24) ?hr ?_; (case hd => rfl); (case hg => rfl); (case hr => first | (go_simp; done) | (go_simp; rfl)); intro gb hg w1 hgb hb1; have HG1 := Lib.hid hgb; have HB1 := Lib.hid hb1; have HE1 := Lib.hid hg; clear hgb hb1 hg) | ((with_reducible refine gate_dst (N := 3) rfl ?_); refine box_event ?hg (N := 3) ?hd (cs := #[.int .i64 kd, .string tt, .slice A2 kids.length c2]) (t := 45) ?hr ?_; (case hd => rfl); (case hg => rfl); (case hr => first | (go_simp; done) | (go_simp; rfl)); intro nb hn w2 hnb hb2; have HX := Lib.hid (Bx.mk ((hb2.block gb (blk_lt HG1.out)).trans HG1.out) hnb); have HB2 := Lib.hid (HB1.out.trans (hb2.mono HB1.out.size)); have HE2 := Lib.hid hn; clear hnb hb2 hn HG1; obtain ⟨x0, x1, x2, x3, x4⟩ := HX.out.cells) | (go_at_call 86; refine (graph_isText.calls _ _ _ _ _ (hG.below HB2.out) HT.out).mono ?_; rintro e w3 ⟨rfl, hb3⟩; have HX3 := Lib.hid (HX.out.below hb3); have HB3 := Lib.hid (HB2.out.trans (hb3.mono HB2.out.size)); clear hb3 HX HB2 x0 x1 x2 x3 x4; obtain ⟨x0, x1, x2, x3, x4⟩ := HX3.out.cells))
  go_ret
  exact ⟨by rw [HF.out]; first | done | rfl, HB3.out⟩
 | true =>
  have hS : graph_isScalar.f kd = some (scB kd) := by unfold graph_isScalar.f scB; rw [if_pos (by omega), decide_eq_true (by omega : (1 : Int) ≤ kd), Bool.true_and]
  have HS := Lib.hid hS
  clear hS
  by_cases ks4 : kd ≤ 4
  ·
   have hsc : scB kd = true := by unfold scB; rw [decide_eq_true (by omega : (1 : Int) ≤ kd), decide_eq_true ks4]; rfl
   have q4 : (kd == 6) = false := beq_eq_false_iff_ne.2 (by omega)
   by_cases kl : 0 < kids.length
   rotate_left
   ·
    refine isNode_on K1 K2 A0 c0 l root kd tt kids A2 c2 ks R w HR H2 hc2 hG HT HK HZ hkl HN q1 q2 (.inl ⟨hsc, by omega⟩) ?_
    exact (nodeB_on l kd tt kids ks k1 k6 (by rw [q4, decide_eq_false kl]; simp)).symm.trans HR2.out
   have HF : Hid (R = false) := Lib.hid (by rw [← HR2.out, nodeB, if_neg k1, if_neg k6, if_neg (by simp), if_pos (by simp [hsc, kl])])
   rw [hsc] at HS
   have q5 : decide ((0 : Int) < (kids.length : Int)) = true := decide_eq_true (by omega)
   have q6 : decide (0 < kids.length) = true := decide_eq_true kl
   go_enter Tryz.func57, Tryz.ntmps57
   go_wp2_with (first | ((with_reducible refine gate_dst (N := 2) rfl ?_); refine box_event ?hg (N := 2) ?hd (cs := #[.slice A0 l.length c0, .int .i64 root]) (t := 24) ?hr ?_; (case hd => rfl); (case hg => rfl); (case hr => first | (go_simp; done) | (go_simp; rfl)); intro gb hg w1 hgb hb1; have HG1 := Lib.hid hgb; have HB1 := Lib.hid hb1; have HE1 := Lib.hid hg; clear hgb hb1 hg) | ((with_reducible refine gate_dst (N := 3) rfl ?_); refine box_event ?hg (N := 3) ?hd (cs := #[.int .i64 kd, .string tt, .slice A2 kids.length c2]) (t := 45) ?hr ?_; (case hd => rfl); (case hg => rfl); (case hr => first | (go_simp; done) | (go_simp; rfl)); intro nb hn w2 hnb hb2; have HX := Lib.hid (Bx.mk ((hb2.block gb (blk_lt HG1.out)).trans HG1.out) hnb); have HB2 := Lib.hid (HB1.out.trans (hb2.mono HB1.out.size)); have HE2 := Lib.hid hn; clear hnb hb2 hn HG1; obtain ⟨x0, x1, x2, x3, x4⟩ := HX.out.cells) | (go_at_call 86; refine (graph_isText.calls _ _ _ _ _ (hG.below HB2.out) HT.out).mono ?_; rintro e w3 ⟨rfl, hb3⟩; have HX3 := Lib.hid (HX.out.below hb3); have HB3 := Lib.hid (HB2.out.trans (hb3.mono HB2.out.size)); clear hb3 HX HB2 x0 x1 x2 x3 x4; obtain ⟨x0, x1, x2, x3, x4⟩ := HX3.out.cells) | (go_at_call 87; refine (graph_isScalar.calls _ _ _ (hG.below HB3.out) HS.out).mono ?_; rintro e w4 ⟨rfl, hd4⟩; have HX4 := Lib.hid (HX3.out.below hd4.below); have HB4 := Lib.hid (HB3.out.trans (hd4.below.mono HB3.out.size)); clear hd4 HX3 HB3 x0 x1 x2 x3 x4; obtain ⟨x0, x1, x2, x3, x4⟩ := HX4.out.cells))
   go_ret
   exact ⟨by rw [HF.out]; first | done | rfl, HB4.out⟩
  have hsc : scB kd = false := by unfold scB; rw [decide_eq_false ks4, Bool.and_false]
  by_cases k66 : kd = 6
  rotate_left
  ·
   have q4 : (kd == 6) = false := beq_eq_false_iff_ne.2 k66
   refine isNode_on K1 K2 A0 c0 l root kd tt kids A2 c2 ks R w HR H2 hc2 hG HT HK HZ hkl HN q1 q2 (.inr (.inr ⟨hsc, q4⟩)) ?_
   exact (nodeB_on l kd tt kids ks k1 k6 (by rw [hsc, q4]; rfl)).symm.trans HR2.out
  have q4 : (kd == 6) = true := beq_iff_eq.2 k66
  by_cases ko : kids.length % 2 = 0
  ·
   refine isNode_on K1 K2 A0 c0 l root kd tt kids A2 c2 ks R w HR H2 hc2 hG HT HK HZ hkl HN q1 q2 (.inr (.inl ⟨hsc, q4, ko⟩)) ?_
   exact (nodeB_on l kd tt kids ks k1 k6 (by rw [hsc, ko]; simp)).symm.trans HR2.out
  have HF : Hid (R = false) := Lib.hid (by rw [← HR2.out, nodeB, if_neg k1, if_neg k6, if_neg (by simp), if_pos (by simp [k66]; omega)])
  have q7 : (kids.length : Int).tmod 2 = 1 := by rw [Int.tmod_eq_emod_of_nonneg (by omega)]; omega
  rw [hsc] at HS
  clear k66 ko
  go_enter Tryz.func57, Tryz.ntmps57
  go_wp2_with (first | ((with_reducible refine gate_dst (N := 2) rfl ?_); refine box_event ?hg (N := 2) ?hd (cs := #[.slice A0 l.length c0, .int .i64 root]) (t := 24) ?hr ?_; (case hd => rfl); (case hg => rfl); (case hr => first | (go_simp; done) | (go_simp; rfl)); intro gb hg w1 hgb hb1; have HG1 := Lib.hid hgb; have HB1 := Lib.hid hb1; have HE1 := Lib.hid hg; clear hgb hb1 hg) | ((with_reducible refine gate_dst (N := 3) rfl ?_); refine box_event ?hg (N := 3) ?hd (cs := #[.int .i64 kd, .string tt, .slice A2 kids.length c2]) (t := 45) ?hr ?_; (case hd => rfl); (case hg => rfl); (case hr => first | (go_simp; done) | (go_simp; rfl)); intro nb hn w2 hnb hb2; have HX := Lib.hid (Bx.mk ((hb2.block gb (blk_lt HG1.out)).trans HG1.out) hnb); have HB2 := Lib.hid (HB1.out.trans (hb2.mono HB1.out.size)); have HE2 := Lib.hid hn; clear hnb hb2 hn HG1; obtain ⟨x0, x1, x2, x3, x4⟩ := HX.out.cells) | (go_at_call 86; refine (graph_isText.calls _ _ _ _ _ (hG.below HB2.out) HT.out).mono ?_; rintro e w3 ⟨rfl, hb3⟩; have HX3 := Lib.hid (HX.out.below hb3); have HB3 := Lib.hid (HB2.out.trans (hb3.mono HB2.out.size)); clear hb3 HX HB2 x0 x1 x2 x3 x4; obtain ⟨x0, x1, x2, x3, x4⟩ := HX3.out.cells) | (go_at_call 87; refine (graph_isScalar.calls _ _ _ (hG.below HB3.out) HS.out).mono ?_; rintro e w4 ⟨rfl, hd4⟩; have HX4 := Lib.hid (HX3.out.below hd4.below); have HB4 := Lib.hid (HB3.out.trans (hd4.below.mono HB3.out.size)); clear hd4 HX3 HB3 x0 x1 x2 x3 x4; obtain ⟨x0, x1, x2, x3, x4⟩ := HX4.out.cells))
  go_ret
  exact ⟨by rw [HF.out]; first | done | rfl, HB4.out⟩
def textB (kd : Int) (s : ByteArray) : Bool :=
 if kd = 2 then resB s.data.toList == 2 else if kd = 3 then resB s.data.toList == 3
 else if kd = 4 then ((decodeB s.data.toList).2.1 == 0 && (decodeB s.data.toList).2.2 == 0) else s.toList == []
theorem isText_of (K : Nat) (kd : Int) (s : ByteArray) (hs : s.size ≤ 1099511627775) : graph_isText.f (K + 1) kd s = some (textB kd s) := by
 have hR : plain_Resolve.f s = some (resB s.data.toList) := by unfold plain_Resolve.f; rw [if_pos (by omega)]
 have hD : utf_Decode.f s = some (decodeB s.data.toList) := by unfold utf_Decode.f; rw [if_pos hs]
 unfold graph_isText.f textB
 by_cases h2 : kd = 2
 · subst h2; simp [graph_isText.j0, hR]
 by_cases h3 : kd = 3
 · subst h3; simp [graph_isText.j0, hR]
 by_cases h4 : kd = 4
 · subst h4; simp [graph_isText.j0, hD]
 have : (kd == 3) = false := beq_eq_false_iff_ne.2 h3
 simp [graph_isText.j0, h2, h3, h4]
def evens : List Int → List Int
 | a :: _ :: r => a :: evens r
 | _ => []
theorem evens_mem : ∀ (l : List Int) (k : Int), k ∈ evens l → k ∈ l
 | [], k, h => by simp [evens] at h
 | [_], k, h => by simp [evens] at h
 | a :: b :: r, k, h => by
  rw [evens, List.mem_cons] at h
  rcases h with h | h
  · exact h ▸ List.mem_cons_self
  · exact List.mem_cons_of_mem _ (List.mem_cons_of_mem _ (evens_mem r k h))
theorem evens_len : ∀ l : List Int, (evens l).length ≤ l.length
 | [] => by simp [evens]
 | [_] => by simp [evens]
 | a :: b :: r => by have := evens_len r; simp [evens]; omega
def keysB (kd : Int) (kids : List Int) : List Int := if kd = 6 then evens kids else []
theorem keys_l0 (kd : Int) (tt : ByteArray) (kids : List Int) (hk : kids.length ≤ 1099511627776) : ∀ (K i : Nat) (acc : List Int), i ≤ kids.length + 1 → kids.length + 1 < i + K → acc.length ≤ i →
    graph_keys.l0 K acc (i : Int) kd tt kids = some (acc ++ evens (kids.drop i))
  | 0, i, acc, h1, h2, h3 => by omega
  | K + 1, i, acc, h1, h2, h3 => by
    rw [graph_keys.l0, show wrap64 ((i : Int) + 1) = (i : Int) + 1 by unfold wrap64; omega]
    by_cases h : (i : Int) + 1 < (kids.length : Int)
    · have e1 : kids.drop i = kids[i] :: kids[i + 1] :: kids.drop (i + 2) := by rw [List.drop_eq_getElem_cons (by omega), List.drop_eq_getElem_cons (by omega)]
      rw [if_pos h, if_pos (by omega), if_pos (by omega), if_pos (by omega), show wrap64 ((i : Int) + 2) = (i : Int) + 2 by unfold wrap64; omega, show ((i : Int) + 2) = ((i + 2 : Nat) : Int) by omega,
        keys_l0 kd tt kids hk K (i + 2) _ (by omega) (by omega) (by rw [List.length_append]; simp; omega), e1, evens, rd_at kids i (by omega)]
      simp
    · rw [if_neg h]
      have e1 : evens (kids.drop i) = [] := by
        have : (kids.drop i).length ≤ 1 := by rw [List.length_drop]; omega
        match hd : kids.drop i, this with
        | [], _ => rfl
        | [_], _ => rfl
      rw [e1, List.append_nil]
theorem keys_of (kd : Int) (tt : ByteArray) (kids : List Int) (hk : kids.length ≤ 1099511627776) (K : Nat) (hK : kids.length + 1 < K) : graph_keys.f K kd tt kids = some (keysB kd kids) := by
 unfold graph_keys.f keysB
 by_cases h : kd = 6
 rotate_left
 · rw [if_neg h, if_neg h]
 rw [if_pos h, if_pos h]
 have := keys_l0 kd tt kids hk K 0 [] (by omega) (by omega) (by simp)
 simpa using this
theorem keys_sub (kd : Int) (kids : List Int) : ∀ k ∈ keysB kd kids, k ∈ kids := by
 unfold keysB
 split
 · exact evens_mem kids
 · intro k h; simp at h
theorem keys_len (kd : Int) (kids : List Int) : (keysB kd kids).length ≤ kids.length := by
 unfold keysB
 split
 · exact evens_len kids
 · simp
def isN (l : List S45) (n : S45) : Bool := nodeB l n (textB n.f0 n.f1) (keysB n.f0 n.f2)
def bump (u : List Int) (k : Int) : List Int := u.set k.toNat (wrap64 (rd u k + 1))
def usesB (l : List S45) : List S45 → List Int → Option (List Int)
 | [], u => some u
 | n :: r, u => if isN l n = true then usesB l r (n.f2.foldl bump u) else none
def soleN (u : List Int) (n : S45) : Bool := (keysB n.f0 n.f2).any (fun k => decide (rd u k > 1))
def soleB (u : List Int) : List S45 → Bool
 | [] => true
 | n :: r => if soleN u n = true then false else soleB u r
def rightB (l : List S45) (root : Int) : Bool :=
 if l.length = 0 then false else if 4096 < l.length then false else if root < 0 then false else if (l.length : Int) ≤ root then false
 else match usesB l l (bump (List.replicate l.length 0) root) with
 | none => false
 | some u => soleB u l
def sizesB (l : List S45) : Bool := l.all fun m => decide (m.f1.size ≤ 1099511627775) && decide (m.f2.length ≤ 1099511627776)
def graph_Right.f (l : List S45) (root : Int) : Option Bool := if sizesB l = true then some (rightB l root) else none
theorem bump_len (u : List Int) (k : Int) : (bump u k).length = u.length := List.length_set
theorem bumps_len : ∀ (ks : List Int) (u : List Int), (ks.foldl bump u).length = u.length
 | [], _ => rfl
 | k :: ks, u => (bumps_len ks (bump u k)).trans (bump_len u k)
theorem isN_range {l : List S45} {n : S45} (h : isN l n = true) : ∀ k ∈ n.f2, 0 ≤ k ∧ k < (l.length : Int) := by
 unfold isN nodeB at h
 split at h; · cases h
 split at h; · cases h
 split at h; · cases h
 split at h; · cases h
 split at h; · cases h
 ·
  rename_i h5
  intro k hk
  have := List.any_eq_false.1 (Bool.eq_false_iff.2 h5) k hk
  simp [farB] at this
  exact this
theorem usesB_all (l : List S45) : ∀ (r : List S45) (u v : List Int), usesB l r u = some v → ∀ n ∈ r, isN l n = true
 | [], _, _, _, n, hn => by simp at hn
 | m :: r, u, v, h, n, hn => by
  rw [usesB] at h
  by_cases c : isN l m = true
  rotate_left
  · rw [if_neg c] at h; cases h
  rw [if_pos c] at h
  rcases List.mem_cons.1 hn with e | e
  · exact e ▸ c
  · exact usesB_all l r _ v h n e
structure Us (B gb ub rb cp : Nat) (A0 : Option Addr) (n0 c0 : Nat) (root : Int) (u : List Int) (w : World) : Prop where
 g : w.heap[gb]? = some (.cells #[.slice A0 n0 c0, .int .i64 root] 24 (0, 0))
 len : u.length = n0
 b : w.heap[ub]? = some (.cells #[.slice (some ⟨rb, 0, none⟩) n0 cp] 40 (0, 0))
 row : Kd.R (Kd.int .i64) 3 w B (fun _ => True) (.slice (some ⟨rb, 0, none⟩) n0 cp) u
section
variable {B gb ub rb cp : Nat} {A0 : Option Addr} {n0 c0 : Nat} {root : Int} {u : List Int} {w w' : World}
theorem Us.cells (h : Us B gb ub rb cp A0 n0 c0 root u w) : w.cell? ⟨gb, 0, none⟩ = some (.slice A0 n0 c0) ∧ w.cell? ⟨gb, 1, none⟩ = some (.int .i64 root) ∧ w.cell? ⟨ub, 0, none⟩ = some (.slice (some ⟨rb, 0, none⟩) n0 cp) :=
  ⟨(blk_cell h.g 0).trans rfl, (blk_cell h.g 1).trans rfl, (blk_cell h.b 0).trans rfl⟩
theorem Us.below (h : Us B gb ub rb cp A0 n0 c0 root u w) (hb : Below w.heap.size w w') : Us B gb ub rb cp A0 n0 c0 root u w' :=
  ⟨(hb.block gb (blk_lt h.g)).trans h.g, h.len, (hb.block ub (blk_lt h.b)).trans h.b, Kd.R_below h.row hb⟩
theorem Us.at_ (h : Us B gb ub rb cp A0 n0 c0 root u w) (k : Int) (h0 : 0 ≤ k) (h1 : k < (n0 : Int)) : w.cell? ⟨rb, k.toNat, none⟩ = some (.int .i64 (rd u k)) ∧ w.frozen? ⟨rb, k.toNat, none⟩ = false :=
  Kd.R_celln 0 h.row k h0 h1
theorem Us.put (h : Us B gb ub rb cp A0 n0 c0 root u w) (k x : Int) : Us B gb ub rb cp A0 n0 c0 root (u.set k.toNat x) (w.setCell ⟨rb, k.toNat, none⟩ (.int .i64 x)) ∧ w.grownBy (w.setCell ⟨rb, k.toNat, none⟩ (.int .i64 x)) (some rb) := by
 obtain ⟨h1, hg⟩ := Kd.R_putg h.row k x
 have n1 : some gb ≠ some rb := Kd.R_ne h.row h.g (by decide)
 have n2 : some ub ≠ some rb := Kd.R_ne h.row h.b (by decide)
 exact ⟨⟨(hg.block gb (blk_lt h.g) n1).trans h.g, by rw [List.length_set]; exact h.len, (hg.block ub (blk_lt h.b) n2).trans h.b, h1⟩, hg⟩
theorem Us.base (h : Us B gb ub rb cp A0 n0 c0 root u w) : B ≤ rb := Kd.R_base h.row rb rfl
end
set_option maxHeartbeats 2000000 in
set_option maxRecDepth 100000 in
theorem more_is (x : Int) (B gb ub rb cp : Nat) (A0 : Option Addr) (n0 c0 : Nat) (root : Int) (u : List Int) (w : World) (hu : Us B gb ub rb cp A0 n0 c0 root u w) (h0 : 0 ≤ x) (h1 : x < (n0 : Int)) :
  Calls Tryz.prog 60 #[.int .i64 x, .pointer (some ⟨ub, 0, none⟩)] w fun e w' => e = .returned (.bool (decide (rd u x > 1))) ∧ Below w.heap.size w w' := by
 obtain ⟨_, _, c0'⟩ := hu.cells
 obtain ⟨c1, _⟩ := hu.at_ x h0 h1
 have p1 := eq_true h0
 have p2 := eq_true h1
 clear hu h0 h1
 go_enter Tryz.func60, Tryz.ntmps60
 go_wp2
 go_ret
 exact ⟨rfl, Below.refl _ w⟩
theorem more_enters : ∀ args w, (callFunc 60 args).run Tryz.prog w = .ok (.enter 60 args) w := fun _ _ => by kernel_rfl
end Go.Proofs.YtiooacmplmcphaaGreatDoor.Plug

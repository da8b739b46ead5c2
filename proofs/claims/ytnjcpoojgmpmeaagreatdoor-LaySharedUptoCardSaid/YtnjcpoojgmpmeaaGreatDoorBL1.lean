/- Texts that stand behind one another, laid into one: what this claim needs of them. -/
import Derived.Test.YtnjcpoojgmpmeaaGreatDoorBL0
import Derived.Deep.LoopGhost
import Derived.Lib.AppendIntMem
import Derived.Outline
import Derived.Deep.QuietTactic
import Derived.BigQuiet
import Derived.Test.YtnjcpoojgmpmeaaGreatDoorProg
import Derived.Lib.OthersKept
import Derived.Lib.FrozenHead2
import Derived.Lib.RuneBytes
import Derived.Lib.Walk
import Derived.Lib.UnsafeStr
import Derived.Lib.AppendStr
import Derived.Lib.Hide
import Derived.WalkKit
import Derived.WalkSmall
import Derived.RowKit
import Derived.KernelRfl
import Derived.Laws.Externs
import Derived.Laws.IdiomCopy
import Derived.Laws.BitsLemmas
import Derived.Lib.MapLaws
import Derived.Lib.SlTrimSet
import Derived.Maps.OwnSet
import Derived.Maps.Views
import Derived.DeepKeys4
namespace Go.Proofs.YtnjcpoojgmpmeaaGreatDoor.PX
open RowKit YtnjcpoojgmpmeaaGreatDoorW.PrintWords YtnjcpoojgmpmeaaGreatDoorW.PrintLast YtnjcpoojgmpmeaaGreatDoorW.PrintMore YtnjcpoojgmpmeaaGreatDoor YtnjcpoojgmpmeaaGreatDoor.Plug
attribute [local go_sem] max2_int min2_int max_two min_two max_three min_three max_four min_four   -- for this text's walks alone
set_option linter.unusedVariables false
set_option linter.unusedSimpArgs false
def utf_First.f (a0 : ByteArray) : Option (Int × Int) := (utf8_DecodeRuneInString.f a0).bind fun bt101 => (if bt101.1 = 65533 then (if bt101.2 < 3 then (some ((-1), bt101.2)) else (some (wrap64 (bt101.1), bt101.2))) else (some (wrap64 (bt101.1), bt101.2)))
theorem qka0_ {P : Prop} (h_ : P := by repeat (first | (with_reducible first | exact HB.out | apply below_alloc | apply pw_below_drewN | apply below_drew1) | exact HB.out)) : P := h_
theorem qka1_ {P : Prop} (h_ : P := by first | ((repeat (first | (with_reducible first | exact HB.out | apply below_alloc | apply pw_below_drewN | apply below_drew1 | (refine Glob.below_set ?_ (by assumption) _ _ _)) | exact HB.out)); done) | (refine Drawn0.below ?_; repeat (first | exact Drawn0.refl _ | assumption | apply Drawn0.step))) : P := h_
theorem qka2_ {P : Prop} (h_ : P := by (try simp only [List.map_toArray, List.map_cons, List.map_nil]); first | done | rfl | (simp only [List.length_drop, List.length_take]; rfl)) : P := h_
theorem qka3_ {P : Prop} (h_ : P := by first | rfl | (simp [errW_none, errW_some] <;> rfl) | (simp [*, errW_none, errW_some] <;> rfl)) : P := h_
set_option maxHeartbeats 8000000 in
set_option maxRecDepth 100000 in
theorem utf_First.calls (a0 : ByteArray) (r1 : Int) (r2 : Int) (w : World) (hG : Glob.G w) (h : utf_First.f a0 = some (r1, r2)) :
  Calls Tryz.prog 113 #[.string a0] w fun e w' => e = .returned (.tuple #[.int .i64 r1, .int .i64 r2]) ∧ Below w.heap.size w w' := by
 have HB := Aside0.mk (Below.refl w.heap.size w)
 have H : ((utf8_DecodeRuneInString.f a0).bind fun bt101 => (if bt101.1 = 65533 then (if bt101.2 < 3 then (some ((-1), bt101.2)) else (some (wrap64 (bt101.1), bt101.2))) else (some (wrap64 (bt101.1), bt101.2)))) = some (r1, r2) := h
 clear h
 replace H := Option.bind_eq_some_iff.mp H
 obtain ⟨⟨t101, t102⟩, A20, H⟩ := H
 replace H : (if t101 = 65533 then (if t102 < 3 then (some ((-1), t102)) else (some (wrap64 (t101), t102))) else (some (wrap64 (t101), t102))) = some (r1, r2) := H
 have A2 := Aside0.mk A20
 clear A20
 by_cases c3 : t101 = 65533
 rotate_left
 ·
  rw [if_neg c3] at H
  have c3b0 : (t101 == 65533) = false := beq_eq_false_iff_ne.mpr c3
  have c3b1 : (t101 != 65533) = true := bne_iff_ne.mpr c3
  simp only [Option.some.injEq, Prod.mk.injEq] at H
  obtain ⟨rfl, rfl⟩ := H
  go_enter Tryz.func113, Tryz.ntmps113
  go_wp2_with (first | ((with_reducible refine gate_callee (f := 115) rfl ?_); refine goesL_ (some 8) rfl rfl Tryz.func115 (by kernel_rfl) rfl #[.string a0] rfl (qka2_) ?_; (with_reducible refine (utf8_DecodeRuneInString.calls a0 t101 t102 _ (hG.below (qka1_)) A2.out).mono ?_); rintro e w7 ⟨rfl, hb⟩; refine ⟨_, rfl, ?_⟩; have n0_ := Aside0.mk (below_step (qka0_) hb); clear HB; have HB := n0_; clear n0_; (try clear hb)))
  go_ret2
  exact ⟨qka3_, qka0_⟩
 rw [if_pos c3] at H
 have c3b0 : (t101 == 65533) = true := beq_iff_eq.mpr c3
 have c3b1 : (t101 != 65533) = false := bne_eq_false_iff_eq.mpr c3
 clear c3
 by_cases c4 : t102 < 3
 ·
  rw [if_pos c4] at H
  have c4b0 : decide (t102 < 3) = true := decide_eq_true c4
  clear c4
  simp only [Option.some.injEq, Prod.mk.injEq] at H
  obtain ⟨rfl, rfl⟩ := H
  go_enter Tryz.func113, Tryz.ntmps113
  go_wp2_with (first | ((with_reducible refine gate_callee (f := 115) rfl ?_); refine goesL_ (some 8) rfl rfl Tryz.func115 (by kernel_rfl) rfl #[.string a0] rfl (qka2_) ?_; (with_reducible refine (utf8_DecodeRuneInString.calls a0 t101 t102 _ (hG.below (qka1_)) A2.out).mono ?_); rintro e w5 ⟨rfl, hb⟩; refine ⟨_, rfl, ?_⟩; have n0_ := Aside0.mk (below_step (qka0_) hb); clear HB; have HB := n0_; clear n0_; (try clear hb)))
  go_ret2
  exact ⟨qka3_, qka0_⟩
 rw [if_neg c4] at H
 have c4b0 : decide (t102 < 3) = false := decide_eq_false c4
 clear c4
 simp only [Option.some.injEq, Prod.mk.injEq] at H
 obtain ⟨rfl, rfl⟩ := H
 go_enter Tryz.func113, Tryz.ntmps113
 go_wp2_with (first | ((with_reducible refine gate_callee (f := 115) rfl ?_); refine goesL_ (some 8) rfl rfl Tryz.func115 (by kernel_rfl) rfl #[.string a0] rfl (qka2_) ?_; (with_reducible refine (utf8_DecodeRuneInString.calls a0 t101 t102 _ (hG.below (qka1_)) A2.out).mono ?_); rintro e w6 ⟨rfl, hb⟩; refine ⟨_, rfl, ?_⟩; have n0_ := Aside0.mk (below_step (qka0_) hb); clear HB; have HB := n0_; clear n0_; (try clear hb)))
 go_ret2
 exact ⟨qka3_, qka0_⟩
end Go.Proofs.YtnjcpoojgmpmeaaGreatDoor.PX
namespace Go.Proofs.YtnjcpoojgmpmeaaGreatDoor.Utf
open RowKit YtnjcpoojgmpmeaaGreatDoor.PX YtnjcpoojgmpmeaaGreatDoor.Plug YtnjcpoojgmpmeaaGreatDoorW.PrintWords YtnjcpoojgmpmeaaGreatDoorW.PrintLast
theorem decodeN_wide (n b0 b1 b2 b3 : Nat) (h : 1 ≤ n) : 1 ≤ (Lib.decodeN n b0 b1 b2 b3).2 ∧ (Lib.decodeN n b0 b1 b2 b3).2 ≤ 4 ∧ (Lib.decodeN n b0 b1 b2 b3).2 ≤ n := by
 unfold Lib.decodeN
 repeat' split
 all_goals (simp only; omega)
theorem decodeN_most (n b0 b1 b2 b3 : Nat) (h : b0 < 256) : (Lib.decodeN n b0 b1 b2 b3).1 ≤ 1114111 := by
 unfold Lib.decodeN
 repeat' split
 all_goals (simp only; omega)
theorem dec_wide (l : List UInt8) (h : l ≠ []) : 1 ≤ (dec l).2 ∧ (dec l).2 ≤ 4 ∧ (dec l).2 ≤ l.length := by
 have hl : 1 ≤ l.length := List.length_pos_iff.2 h
 have := decodeN_wide l.length (at_ l 0) (at_ l 1) (at_ l 2) (at_ l 3) hl
 unfold dec
 rw [if_neg h]
 split <;> exact this
theorem decodeGo_eq (s : ByteArray) : Lib.decodeGo s = if s.data.toList = [] then (65533, 0) else Lib.decodeN s.data.toList.length (at_ s.data.toList 0) (at_ s.data.toList 1) (at_ s.data.toList 2) (at_ s.data.toList 3) := by
 unfold Lib.decodeGo
 have hL := size_list s
 have g : ∀ i, (s.get! i).toNat = at_ s.data.toList i := by
  intro i
  unfold at_
  by_cases h : i < s.size
  · rw [Utf8W.get!_of_lt s i h, List.getD_eq_getElem?_getD, List.getElem?_eq_getElem (by omega)]; rfl
  rw [List.getD_eq_getElem?_getD, List.getElem?_eq_none (by omega)]
  cases s with
  | mk d => simp only [ByteArray.get!]; rw [getElem!_neg d i (show ¬ i < d.size from h)]; rfl
 by_cases h : s.data.toList = []
 · rw [if_pos h, if_pos (by rw [hL, h]; rfl)]
 rw [if_neg h, if_neg (fun e => h (List.eq_nil_of_length_eq_zero (by omega))), Lib.decode_at, g, g, g, g, Nat.sub_zero, hL]
theorem prog_first (s : ByteArray) : utf_First.f s = some ((dec s.data.toList).1, ((dec s.data.toList).2 : Int)) := by
 unfold utf_First.f utf8_DecodeRuneInString.f
 simp only [Option.bind_some]
 rw [decodeGo_eq]
 unfold dec
 by_cases h : s.data.toList = []
 · rw [if_pos h, if_pos h]; rfl
 rw [if_neg h, if_neg h]
 have hm := decodeN_most s.data.toList.length (at_ s.data.toList 0) (at_ s.data.toList 1) (at_ s.data.toList 2) (at_ s.data.toList 3) (at_lt _ _)
 generalize Lib.decodeN s.data.toList.length (at_ s.data.toList 0) (at_ s.data.toList 1) (at_ s.data.toList 2) (at_ s.data.toList 3) = d at *
 obtain ⟨r, n⟩ := d
 simp only at *
 have hw : wrap64 (r : Int) = r := by unfold wrap64; omega
 by_cases a : r = 65533
 rotate_left
 · rw [if_neg (by omega), if_neg (fun x => a x.1)]; simp; exact hw
 by_cases b : n < 3
 · rw [if_pos (by omega), if_pos (by omega), if_pos ⟨a, b⟩]
 rw [if_pos (by omega), if_neg (by omega), if_neg (fun x => b x.2)]; simp; exact hw
theorem drop_list (s : ByteArray) (i : Nat) : (s.extract i s.size).data.toList = s.data.toList.drop i := by
 rw [Lib.extract_data, List.take_of_length_le]
 rw [List.length_drop, ← size_list]
 omega
end Go.Proofs.YtnjcpoojgmpmeaaGreatDoor.Utf
namespace Go.Proofs.YtnjcpoojgmpmeaaGreatDoor.PX
open RowKit YtnjcpoojgmpmeaaGreatDoorW.PrintWords YtnjcpoojgmpmeaaGreatDoorW.PrintLast YtnjcpoojgmpmeaaGreatDoorW.PrintMore YtnjcpoojgmpmeaaGreatDoor
attribute [local go_sem] max2_int min2_int max_two min_two max_three min_three max_four min_four   -- for this text's walks alone
set_option linter.unusedVariables false
set_option linter.unusedSimpArgs false
def utf_fault.f (a0 : ByteArray) (a1 : Int) : Option (Int × Int) := if a1 < (a0.size : Int) then (some (8, a1)) else (some (0, 0))
theorem qma0_ {P : Prop} (h_ : P := by repeat (first | (with_reducible first | exact HB.out | apply below_alloc | apply pw_below_drewN | apply below_drew1) | exact HB.out)) : P := h_
theorem qma1_ {P : Prop} (h_ : P := by repeat (first | (with_reducible first | exact HB.out | apply below_alloc | apply pw_below_drewN | apply below_drew1 | refine below_set ?_ GE101.out) | exact HB.out)) : P := h_
set_option maxHeartbeats 8000000 in
set_option maxRecDepth 100000 in
theorem utf_fault.calls (a0 : ByteArray) (a1 : Int) (r1 : Int) (r2 : Int) (w : World) (hG : Glob.G w) (h : utf_fault.f a0 a1 = some (r1, r2)) :
  Calls Tryz.prog 93 #[.string a0, .int .i64 a1] w fun e w' => e = .returned (.agg #[.int .i64 r1, .int .i64 r2]) ∧ Below w.heap.size w w' := by
 have hu143 := Tryz.underlying143
 have HB := Aside0.mk (Below.refl w.heap.size w)
 have H : (if a1 < (a0.size : Int) then (some (8, a1)) else (some (0, 0))) = some (r1, r2) := h
 clear h
 by_cases c3 : a1 < (a0.size : Int)
 ·
  rw [if_pos c3] at H
  have c3b0 : decide (a1 < (a0.size : Int)) = true := decide_eq_true c3
  clear c3
  simp only [Option.some.injEq, Prod.mk.injEq] at H
  obtain ⟨rfl, rfl⟩ := H
  go_enter Tryz.func93, Tryz.ntmps93
  go_wp2_with (first | ((with_reducible refine gate_dst (N := 4) rfl ?_); refine box_event ?hg (N := 4) ?hd (cs := #[.int .i64 0, .int .i64 0]) (t := 143) ?hr ?_; (case hd => rfl); (case hg => rfl); (case hr => first | (go_simp; done) | (go_simp; rfl)); intro gb101 hg w4 hbox hb; have n0_ := Aside0.mk (below_step (qma0_) hb); have n1_ := Aside0.mk (hbox); have n2_ := Aside0.mk ((by rw [hg]; exact (below_size (qma0_)) : w.heap.size ≤ gb101)); have n3_ := Aside0.mk ((by rw [hg]; exact (below_size (qma0_)) : w.heap.size ≤ gb101)); clear HB; have HB := n0_; have BK101 := n1_; have GW101 := n2_; have GE101 := n3_; clear n0_ n1_ n2_ n3_; clear hb hbox hg; have hcz5_0 : w4.cell? ⟨gb101, 0, none⟩ = some (.int .i64 0) := (blk_cell BK101.out 0).trans rfl; have hcz5_1 : w4.cell? ⟨gb101, 1, none⟩ = some (.int .i64 0) := (blk_cell BK101.out 1).trans rfl; have hfz5_0 := blk_frozen BK101.out 0; have hfz5_1 := blk_frozen BK101.out 1))
  refine bodyPost_ret (results_cell_row rfl _ _ gb101 143 #[.int .i64 8, .int .i64 a1] (0, 0) _ rfl (by (with_reducible repeat (first | refine blk_drewN ?_ _ | refine blk_drew ?_ | refine blk_alloc ?_ _)); refine blk_put (cs := #[.int .i64 8, .int .i64 0]) ?_ 1 _ rfl; (with_reducible repeat (first | refine blk_drewN ?_ _ | refine blk_drew ?_ | refine blk_alloc ?_ _)); refine blk_put (cs := #[.int .i64 0, .int .i64 0]) ?_ 0 _ rfl; (with_reducible repeat (first | refine blk_drewN ?_ _ | refine blk_drew ?_ | refine blk_alloc ?_ _)); exact BK101.out) Tryz.underlying143 rfl (by kernel_rfl)) rfl ?_
  exact ⟨by first | rfl | (simp [errW_none, errW_some] <;> rfl) | (simp [*, errW_none, errW_some] <;> rfl), qma1_⟩
 rw [if_neg c3] at H
 have c3b0 : decide (a1 < (a0.size : Int)) = false := decide_eq_false c3
 clear c3
 simp only [Option.some.injEq, Prod.mk.injEq] at H
 obtain ⟨rfl, rfl⟩ := H
 go_enter Tryz.func93, Tryz.ntmps93
 go_wp2_with (first | ((with_reducible refine gate_dst (N := 4) rfl ?_); refine box_event ?hg (N := 4) ?hd (cs := #[.int .i64 0, .int .i64 0]) (t := 143) ?hr ?_; (case hd => rfl); (case hg => rfl); (case hr => first | (go_simp; done) | (go_simp; rfl)); intro gb101 hg w6 hbox hb; have n0_ := Aside0.mk (below_step (qma0_) hb); have n1_ := Aside0.mk (hbox); have n2_ := Aside0.mk ((by rw [hg]; exact (below_size (qma0_)) : w.heap.size ≤ gb101)); have n3_ := Aside0.mk ((by rw [hg]; exact (below_size (qma0_)) : w.heap.size ≤ gb101)); clear HB; have HB := n0_; have BK101 := n1_; have GW101 := n2_; have GE101 := n3_; clear n0_ n1_ n2_ n3_; clear hb hbox hg; have hcz7_0 : w6.cell? ⟨gb101, 0, none⟩ = some (.int .i64 0) := (blk_cell BK101.out 0).trans rfl; have hcz7_1 : w6.cell? ⟨gb101, 1, none⟩ = some (.int .i64 0) := (blk_cell BK101.out 1).trans rfl; have hfz7_0 := blk_frozen BK101.out 0; have hfz7_1 := blk_frozen BK101.out 1))
 refine bodyPost_ret (results_cell_row rfl _ _ gb101 143 #[.int .i64 0, .int .i64 0] (0, 0) _ rfl (by (with_reducible repeat (first | refine blk_drewN ?_ _ | refine blk_drew ?_ | refine blk_alloc ?_ _)); refine blk_put (cs := #[.int .i64 0, .int .i64 0]) ?_ 1 _ rfl; (with_reducible repeat (first | refine blk_drewN ?_ _ | refine blk_drew ?_ | refine blk_alloc ?_ _)); refine blk_put (cs := #[.int .i64 0, .int .i64 0]) ?_ 0 _ rfl; (with_reducible repeat (first | refine blk_drewN ?_ _ | refine blk_drew ?_ | refine blk_alloc ?_ _)); exact BK101.out) Tryz.underlying143 rfl (by kernel_rfl)) rfl ?_
 exact ⟨by first | rfl | (simp [errW_none, errW_some] <;> rfl) | (simp [*, errW_none, errW_some] <;> rfl), qma1_⟩
end Go.Proofs.YtnjcpoojgmpmeaaGreatDoor.PX
namespace Go.Proofs.YtnjcpoojgmpmeaaGreatDoor.PX
open RowKit YtnjcpoojgmpmeaaGreatDoorW.PrintWords YtnjcpoojgmpmeaaGreatDoorW.PrintLast YtnjcpoojgmpmeaaGreatDoorW.PrintMore YtnjcpoojgmpmeaaGreatDoor YtnjcpoojgmpmeaaGreatDoor.Plug
attribute [local go_sem] max2_int min2_int max_two min_two max_three min_three max_four min_four   -- for this text's walks alone
set_option linter.unusedVariables false
set_option linter.unusedSimpArgs false
def plain_Text.f (a0 : Int) : Option (ByteArray) := (strconv_Itoa.f a0).bind fun t101 => (some t101)
theorem qna0_ {P : Prop} (h_ : P := by repeat (first | (with_reducible first | exact HB.out | apply below_alloc | apply pw_below_drewN | apply below_drew1) | exact HB.out)) : P := h_
set_option maxHeartbeats 8000000 in
set_option maxRecDepth 100000 in
theorem plain_Text.calls (a0 : Int) (r : ByteArray) (w : World) (hG : Glob.G w) (h : plain_Text.f a0 = some r) :
  Calls Tryz.prog 45 #[.int .i64 a0] w fun e w' => e = .returned (.string r) ∧ Below w.heap.size w w' := by
 have HB := Aside0.mk (Below.refl w.heap.size w)
 have H : ((strconv_Itoa.f a0).bind fun t101 => (some t101)) = some r := h
 clear h
 replace H := Option.bind_eq_some_iff.mp H
 obtain ⟨t101, A20, H⟩ := H
 replace H : (some t101) = some r := H
 have A2 := Aside0.mk A20
 clear A20
 obtain rfl := Option.some.inj H
 go_enter Tryz.func45, Tryz.ntmps45
 go_wp2_with (first | ((with_reducible refine gate_callee (f := 66) rfl ?_); refine goesL_ (some 4) rfl rfl Tryz.func66 (by kernel_rfl) rfl #[.int .i64 a0] rfl (by (try simp only [List.map_toArray, List.map_cons, List.map_nil]); first | done | rfl | (simp only [List.length_drop, List.length_take]; rfl)) ?_; (with_reducible refine (strconv_Itoa.calls a0 t101 _ (hG.below (by first | ((repeat (first | (with_reducible first | exact HB.out | apply below_alloc | apply pw_below_drewN | apply below_drew1 | (refine Glob.below_set ?_ (by assumption) _ _ _)) | exact HB.out)); done) | (refine Drawn0.below ?_; repeat (first | exact Drawn0.refl _ | assumption | apply Drawn0.step)))) A2.out).mono ?_); rintro e w3 ⟨rfl, hb⟩; refine ⟨_, rfl, ?_⟩; have n0_ := Aside0.mk (below_step (qna0_) hb); clear HB; have HB := n0_; clear n0_; (try clear hb)))
 go_ret
 exact ⟨by first | rfl | (simp [errW_none, errW_some] <;> rfl) | (simp [*, errW_none, errW_some] <;> rfl), qna0_⟩
end Go.Proofs.YtnjcpoojgmpmeaaGreatDoor.PX
namespace Go.Proofs.YtnjcpoojgmpmeaaGreatDoor.Plug
open RowKit YtnjcpoojgmpmeaaGreatDoor YtnjcpoojgmpmeaaGreatDoor.PX YtnjcpoojgmpmeaaGreatDoor.Utf YtnjcpoojgmpmeaaGreatDoorW.PrintWords YtnjcpoojgmpmeaaGreatDoorW.PrintLast
def numB (l : List UInt8) : Int × Bool := match Lib.atoiAll l with
 | .ok v => if Lib.itoa v = l then (v, true) else (0, false)
 | _ => (0, false)
def plain_Number.f (a0 : ByteArray) : Option (Int × Bool) := if a0.size ≤ 140737488351232 then some (numB a0.data.toList) else none
theorem atoi_ok (s : ByteArray) (w : World) (hs : s.size ≤ 140737488351232) (v : Int) (h : Lib.atoiAll s.data.toList = .ok v) :
    Calls Tryz.prog 112 #[.string s] w fun e w' => e = .returned (.tuple #[.int .i64 v, .nilIface]) ∧ Below w.heap.size w w' :=
  (Tryz.strconv_Atoi_ok s (by omega) v h w).mono fun e w' ⟨he, hw⟩ => ⟨he, by
    rcases hw with rfl | ⟨t, rfl⟩
    · exact Below.refl _ _
    · exact Lib.bytesWorld_below _ _ _⟩
theorem atoi_bad (s : ByteArray) (w : World) (hG : Glob.G w) (hs : s.size ≤ 140737488351232) (h : ∀ v, Lib.atoiAll s.data.toList ≠ .ok v) :
  ∃ n : Int, Calls Tryz.prog 112 #[.string s] w fun e w' => ∃ p : Addr, e = .returned (.tuple #[.int .i64 n, .iface 206 (.pointer (some p))]) ∧ Below w.heap.size w w' := by
 rcases hc : Lib.atoiAll s.data.toList with v | _ | _
 · exact absurd hc (h v)
 ·
  obtain ⟨tp, pp, hv⟩ := hG.syn
  exact ⟨0, (Any.strconv_Atoi_syntax_var Tryz.laysC172 s (by omega) hc tp pp w hv).mono fun e w' ⟨N, he, _, _, hb⟩ => ⟨_, he, hb⟩⟩
 ·
  obtain ⟨tp, pp, hv⟩ := hG.rng
  exact ⟨_, (Tryz.strconv_Atoi_range_var s (by omega) hc tp pp w hv).mono fun e w' ⟨N, he, _, _, hb⟩ => ⟨_, he, hb⟩⟩
set_option maxHeartbeats 1000000 in
theorem plain_Number.calls (a0 : ByteArray) (r1 : Int) (r2 : Bool) (w : World) (hG : Glob.G w) (h : plain_Number.f a0 = some (r1, r2)) :
  Calls Tryz.prog 90 #[.string a0] w fun e w' => e = .returned (.tuple #[.int .i64 r1, .bool r2]) ∧ Below w.heap.size w w' := by
 unfold plain_Number.f at h
 by_cases c : a0.size ≤ 140737488351232
 rotate_left
 · rw [if_neg c] at h; cases h
 rw [if_pos c] at h
 by_cases hv : ∃ v, Lib.atoiAll a0.data.toList = .ok v
 rotate_left
 ·
  obtain ⟨n, hA⟩ := atoi_bad a0 w hG c (fun v hv' => hv ⟨v, hv'⟩)
  have hN : numB a0.data.toList = (0, false) := by
   unfold numB
   rcases hc : Lib.atoiAll a0.data.toList with v | _ | _
   · exact absurd ⟨v, hc⟩ hv
   · rfl
   · rfl
  rw [hN] at h
  obtain ⟨rfl, rfl⟩ := Prod.mk.inj (Option.some.inj h)
  have HA := Lib.hid hA
  clear hA h hv hN
  go_enter Tryz.func90, Tryz.ntmps90
  go_wp2_with (first | (go_at_call 112; refine HA.out.mono ?_; rintro e w1 ⟨p, rfl, hb1⟩))
  go_ret2
  exact ⟨rfl, hb1⟩
 obtain ⟨v, hv⟩ := hv
 have hbd := Lib.atoiAll_bounds hv
 unfold numB at h
 rw [hv] at h
 simp only at h
 have hT : plain_Text.f v = some ⟨(Lib.itoa v).toArray⟩ := by unfold plain_Text.f strconv_Itoa.f; rw [if_pos hbd]; rfl
 have HV := Lib.hid hv; have HT := Lib.hid hT
 obtain ⟨b1, b2⟩ := hbd
 clear hv hT
 by_cases he : Lib.itoa v = a0.data.toList
 ·
  rw [if_pos he] at h
  obtain ⟨rfl, rfl⟩ := Prod.mk.inj (Option.some.inj h)
  have hne : (Lib.itoa v == a0.toList) = true := by rw [Lib.toList_data, he]; simp
  clear h he
  go_enter Tryz.func90, Tryz.ntmps90
  go_wp2_with (first | (go_at_call 112; refine (atoi_ok _ _ c _ HV.out).mono ?_; rintro e w1 ⟨rfl, hb1⟩) | (go_at_call 45; refine (plain_Text.calls _ _ _ (hG.below hb1) HT.out).mono ?_; rintro e w2 ⟨rfl, hb2⟩))
  go_ret2
  exact ⟨rfl, hb1.trans (hb2.mono hb1.size)⟩
 rw [if_neg he] at h
 obtain ⟨rfl, rfl⟩ := Prod.mk.inj (Option.some.inj h)
 have hne : (Lib.itoa v == a0.toList) = false := by rw [Lib.toList_data]; simpa using he
 clear h he
 go_enter Tryz.func90, Tryz.ntmps90
 go_wp2_with (first | (go_at_call 112; refine (atoi_ok _ _ c _ HV.out).mono ?_; rintro e w1 ⟨rfl, hb1⟩) | (go_at_call 45; refine (plain_Text.calls _ _ _ (hG.below hb1) HT.out).mono ?_; rintro e w2 ⟨rfl, hb2⟩))
 go_ret2
 exact ⟨rfl, hb1.trans (hb2.mono hb1.size)⟩
def resB (l : List UInt8) : Int :=
  if l = [] ∨ l = [126] ∨ l = [110, 117, 108, 108] then 1 else if l = [116, 114, 117, 101] ∨ l = [102, 97, 108, 115, 101] then 2 else if (numB l).2 = true then 3 else 4
def plain_Resolve.f (a0 : ByteArray) : Option Int := if a0.size ≤ 140737488351232 then some (resB a0.data.toList) else none
theorem of_list {s : ByteArray} {l : List UInt8} (h : s.data.toList = l) : s = ⟨l.toArray⟩ := by
 cases s with
 | mk d => subst h; rfl
set_option maxHeartbeats 2000000 in
theorem plain_Resolve.calls (a0 : ByteArray) (r : Int) (w : World) (hG : Glob.G w) (h : plain_Resolve.f a0 = some r) :
  Calls Tryz.prog 76 #[.string a0] w fun e w' => e = .returned (.int .i64 r) ∧ Below w.heap.size w w' := by
 unfold plain_Resolve.f at h
 by_cases c : a0.size ≤ 140737488351232
 rotate_left
 · rw [if_neg c] at h; cases h
 rw [if_pos c] at h
 obtain rfl := Option.some.inj h
 clear h
 by_cases h0 : a0.data.toList = []
 ·
  obtain rfl := of_list h0; clear h0 c hG
  rw [show resB (⟨([] : List UInt8).toArray⟩ : ByteArray).data.toList = 1 from rfl]
  go_enter Tryz.func76, Tryz.ntmps76
  go_wp2_with (fail)
  go_ret
  exact ⟨rfl, Below.refl _ _⟩
 by_cases h1 : a0.data.toList = [126]
 ·
  obtain rfl := of_list h1; clear h0 h1 c hG
  rw [show resB (⟨([126] : List UInt8).toArray⟩ : ByteArray).data.toList = 1 from rfl]
  go_enter Tryz.func76, Tryz.ntmps76
  go_wp2_with (fail)
  go_ret
  exact ⟨rfl, Below.refl _ _⟩
 by_cases h2 : a0.data.toList = [110, 117, 108, 108]
 ·
  obtain rfl := of_list h2; clear h0 h1 h2 c hG
  rw [show resB (⟨([110, 117, 108, 108] : List UInt8).toArray⟩ : ByteArray).data.toList = 1 from rfl]
  go_enter Tryz.func76, Tryz.ntmps76
  go_wp2_with (fail)
  go_ret
  exact ⟨rfl, Below.refl _ _⟩
 by_cases h3 : a0.data.toList = [116, 114, 117, 101]
 ·
  obtain rfl := of_list h3; clear h0 h1 h2 h3 c hG
  rw [show resB (⟨([116, 114, 117, 101] : List UInt8).toArray⟩ : ByteArray).data.toList = 2 from rfl]
  go_enter Tryz.func76, Tryz.ntmps76
  go_wp2_with (fail)
  go_ret
  exact ⟨rfl, Below.refl _ _⟩
 by_cases h4 : a0.data.toList = [102, 97, 108, 115, 101]
 ·
  obtain rfl := of_list h4; clear h0 h1 h2 h3 h4 c hG
  rw [show resB (⟨([102, 97, 108, 115, 101] : List UInt8).toArray⟩ : ByteArray).data.toList = 2 from rfl]
  go_enter Tryz.func76, Tryz.ntmps76
  go_wp2_with (fail)
  go_ret
  exact ⟨rfl, Below.refl _ _⟩
 have hN : plain_Number.f a0 = some ((numB a0.data.toList).1, (numB a0.data.toList).2) := by unfold plain_Number.f; rw [if_pos c]
 have hR : resB a0.data.toList = if (numB a0.data.toList).2 = true then 3 else 4 := by
  unfold resB
  rw [if_neg (by simp [h0, h1, h2]), if_neg (by simp [h3, h4])]
 have e0 : a0.toList.isEmpty = false := by rw [Lib.toList_data]; simpa using h0
 have e1 : (a0.toList == [126]) = false := by rw [Lib.toList_data]; simpa using h1
 have e2 : (a0.toList == [110, 117, 108, 108]) = false := by rw [Lib.toList_data]; simpa using h2
 have e3 : (a0.toList == [116, 114, 117, 101]) = false := by rw [Lib.toList_data]; simpa using h3
 have e4 : (a0.toList == [102, 97, 108, 115, 101]) = false := by rw [Lib.toList_data]; simpa using h4
 rw [hR]
 generalize numB a0.data.toList = nb at hN
 obtain ⟨n, b⟩ := nb
 have HN := Lib.hid hN
 clear hN hR h0 h1 h2 h3 h4
 cases b
 all_goals
  go_enter Tryz.func76, Tryz.ntmps76
  go_wp2_with (go_at_call 90; refine (plain_Number.calls _ _ _ _ hG HN.out).mono ?_; rintro e w1 ⟨rfl, hb1⟩)
  go_ret
  exact ⟨rfl, hb1⟩
end Go.Proofs.YtnjcpoojgmpmeaaGreatDoor.Plug
set_option linter.unusedVariables false
namespace Go.Proofs.YtnjcpoojgmpmeaaGreatDoor.Bld
open RowKit YtnjcpoojgmpmeaaGreatDoor
structure Lies (T : TypeId) : Prop where
 lies : liesAt Tryz.prog Tryz.prog.depth T (2 / Tryz.prog.cellsOf T) 0 99 1 = true
 ne : T ≠ 5
theorem lies_plain : Lies 99 := ⟨by kernel_rfl, by decide⟩
theorem size_bld : (Tryz.prog.info? 99).map (·.size) = some 2 := by kernel_rfl
theorem info_byte : (Tryz.prog.info? 5).map (fun i => (i.zero, i.size, i.bytes)) = some (some (.int .u8 0), 1, 1) := by kernel_rfl
theorem ptr_bld : Tryz.prog.underlying 96 = some (.pointer 99) := by kernel_rfl
theorem ptr_raw : Tryz.prog.underlying 165 = some .unsafePointer := by kernel_rfl
theorem row_byte : Tryz.prog.underlying 97 = some (.slice 5) := by kernel_rfl
theorem str_t : Tryz.prog.underlying 9 = some .string := by kernel_rfl
set_option maxHeartbeats 2000000 in
set_option maxRecDepth 100000 in
theorem check (T : TypeId) (hT : Lies T) (B b : Nat) (bs : List Value) (w : World) (h : Lib.IsBuilderF T 5 B b bs w) :
  Calls Tryz.prog 81 #[.pointer (some ⟨b, 0, none⟩)] w fun e w' => e = .returned (.tuple #[]) ∧ (Lib.BuilderAtF T 5 B b (.pointer (some ⟨b, 0, none⟩)) bs w' ∧ Below B w w' ∧ Lib.OthersKept 5 (some b) w w') := by
 obtain ⟨j, hj, hjs⟩ := Option.map_eq_some_iff.1 size_bld
 rcases h with h | h
 ·
  have h0 := h.cell0; have hsh := h.shape; have hfz := h.frozen0
  have HE : Hid (Lib.BuilderAtF T 5 B b (.pointer (some ⟨b, 0, none⟩)) bs (w.setCell ⟨b, 0, none⟩ (.pointer (some ⟨b, 0, none⟩))) ∧ Below B w (w.setCell ⟨b, 0, none⟩ (.pointer (some ⟨b, 0, none⟩))) ∧ Lib.OthersKept 5 (some b) w (w.setCell ⟨b, 0, none⟩ (.pointer (some ⟨b, 0, none⟩)))) :=
   Lib.hid ⟨h.used _, (Below.refl B w).setCell (p := ⟨b, 0, none⟩) h.1 _, (Lib.OthersKept.refl _ _ w).setCell ⟨b, 0, none⟩ rfl _⟩
  clear h
  go_enter Tryz.func81, Tryz.ntmps81
  go_wp2
  rw [Lib.run_to_unsafe w ⟨b, 0, none⟩ ptr_bld ptr_raw hj (by rw [hjs]; decide) hsh (Nat.zero_lt_succ 1)]
  simp only [Result.andThen]
  rw [Oper.upon_value]
  go_wp2
  rw [run_callFunc_extern Tryz.func102 (by kernel_rfl) (by kernel_rfl) (by kernel_rfl) (e := Extern.AbiNoEscape.same) (by kernel_rfl)]
  rw [Lib.run_noEscape]
  simp only [Result.andThen]
  rw [Oper.upon_value]
  go_wp2
  rw [Lib.run_from_unsafe w ⟨b, 0, none⟩ ptr_raw ptr_bld hj hsh hT.lies]
  simp only [Result.andThen]
  rw [Oper.upon_value]
  go_wp2
  go_end0
  exact ⟨rfl, HE.out⟩
 ·
  have h0 := h.cell0
  have HE : Hid (Lib.BuilderAtF T 5 B b (.pointer (some ⟨b, 0, none⟩)) bs w ∧ Below B w w ∧ Lib.OthersKept 5 (some b) w w) := Lib.hid ⟨h, Below.refl B _, Lib.OthersKept.refl _ _ _⟩
  clear h
  go_enter Tryz.func81, Tryz.ntmps81
  go_wp2
  rw [Lib.run_neq_ptr_same w _ ptr_bld hj]
  go_wp2
  go_end0
  exact ⟨rfl, HE.out⟩
def Wrote (T : TypeId) (B b : Nat) (bs : List Value) (w w' : World) : Prop :=
  Lib.BuilderAtF T 5 B b (.pointer (some ⟨b, 0, none⟩)) bs w' ∧ Below B w w' ∧ Lib.OthersKept 5 (some b) w w'
theorem at_lt {w : World} {b : Nat} {o : Obj} (h : w.heap[b]? = some o) : b < w.heap.size := by
 rcases Nat.lt_or_ge b w.heap.size with h' | h'
 · exact h'
 · simp [Array.getElem?_eq_none h'] at h
set_option maxHeartbeats 2000000 in
set_option maxRecDepth 100000 in
theorem byte (T : TypeId) (hT : Lies T) (B b : Nat) (bs : List Value) (c : Int) (w : World) (h : Lib.IsBuilderF T 5 B b bs w) (hlen : bs.length + 1 ≤ 140737488355328) (hBw : B ≤ w.heap.size) :
  Calls Tryz.prog 65 #[.pointer (some ⟨b, 0, none⟩), .int .u8 c] w fun e w' => e = .returned .nilIface ∧ Wrote T B b (bs ++ [.int .u8 c]) w w' := by
 obtain ⟨i0, hi, hz0, hz1, hz2⟩ := info_parts info_byte
 go_enter Tryz.func65, Tryz.ntmps65
 go_wp2_with (go_at_call 81; refine (check T hT B b bs _ h).mono ?_)
 rintro e w1 ⟨rfl, h1, hb1, hk1⟩
 obtain ⟨hB, v, hbk, hown, hne⟩ := h1
 have c0 : w1.cell? ⟨b, 0, none⟩ = some (.pointer (some ⟨b, 0, none⟩)) := by rw [Lib.cell_of_heap hbk]; rfl
 have c1 : w1.cell? ⟨b, 1, none⟩ = some v := by rw [Lib.cell_of_heap hbk]; rfl
 go_wp2_with (at_builtin; refine wpList_append_ownF _ rfl _ _ 97 rfl B 5 i0 (.int .u8 0) 1 1 row_byte hi hz0 hz1 hz2 rfl (by decide) _ _ _ rfl (hown.alloc _) ⟨w1.heap.size, 0, none⟩ 1 1 [.int .u8 c] rfl rfl ?c1 ?c2 ?c3 ?c4 ?c5 ?_)
 case c1 =>
  intro j u hj
  match j, hj with
  | 0, hj => simp at hj; subst hj; simp [Addr.add]
 case c2 => intro u hu; simp at hu; subst hu; rfl
 case c3 => unfold maxLen; omega
 case c4 => omega
 case c5 => have := hb1.size; simp; omega
 intro v' w2 hown' hgrow _
 have hlt := at_lt hbk
 have hb2 : w2.heap[b]? = some (.cells #[.pointer (some ⟨b, 0, none⟩), v] T (0, 0)) := by
  rw [hgrow.block b (by simp; omega) (fun e => hne e.symm), Lib.alloc_old w1 _ b hlt]
  exact hbk
 have d0 : w2.cell? ⟨b, 0, none⟩ = some (.pointer (some ⟨b, 0, none⟩)) := by rw [Lib.cell_of_heap hb2]; rfl
 have d1 : w2.cell? ⟨b, 1, none⟩ = some v := by rw [Lib.cell_of_heap hb2]; rfl
 have f1 : w2.frozen? ⟨b, 1, none⟩ = false := Lib.frozen_of_heap hb2 1
 obtain ⟨g, cap, rfl⟩ : ∃ g cap, v' = .slice (some ⟨g, 0, none⟩) (bs.length + 1) cap := by
  rcases hown'.2 with ⟨_, h0⟩ | ⟨g, cap, cur, fz, hv, _⟩
  · omega
  · exact ⟨g, cap, hv⟩
 go_wp2
 go_ret
 refine ⟨rfl, ?_, ?_, ((hk1.alloc _).grown hgrow (Lib.ownsRowF_kind (hown.alloc _))).setCell ⟨b, 1, none⟩ rfl _⟩
 · exact Lib.BuilderAtF.put (T := T) (e := 5) hB hb2 (bs' := bs ++ [.int .u8 c]) (by simpa using hown') hT.ne
 · exact ((hb1.alloc (by have := hb1.size; omega) _).grown hgrow (by have := hb1.size; simp; omega) (fun k hk => (hown.lt k hk).1)).setCell (p := ⟨b, 1, none⟩) hB _
set_option maxHeartbeats 2000000 in
set_option maxRecDepth 100000 in
theorem text (T : TypeId) (hT : Lies T) (B b : Nat) (bs : List Value) (s : ByteArray) (w : World) (h : Lib.IsBuilderF T 5 B b bs w) (hlen : bs.length + s.size ≤ 140737488355328) (hBw : B ≤ w.heap.size) :
  Calls Tryz.prog 63 #[.pointer (some ⟨b, 0, none⟩), .string s] w fun e w' => e = .returned (.tuple #[.int .i64 s.size, .nilIface]) ∧ Wrote T B b (bs ++ Lib.strCells s) w w' := by
 obtain ⟨i0, hi, hz0, hz1, hz2⟩ := info_parts info_byte
 go_enter Tryz.func63, Tryz.ntmps63
 go_wp2_with (go_at_call 81; refine (check T hT B b bs _ h).mono ?_)
 rintro e w1 ⟨rfl, h1, hb1, hk1⟩
 obtain ⟨hB, v, hbk, hown, hne⟩ := h1
 have c0 : w1.cell? ⟨b, 0, none⟩ = some (.pointer (some ⟨b, 0, none⟩)) := by rw [Lib.cell_of_heap hbk]; rfl
 have c1 : w1.cell? ⟨b, 1, none⟩ = some v := by rw [Lib.cell_of_heap hbk]; rfl
 go_wp2_with (at_builtin; refine Lib.wpList_append_own_stringF _ rfl _ _ 97 9 rfl B 5 i0 row_byte str_t hi hz0 hz1 hz2 _ _ _ rfl hown s rfl ?c3 ?c4 ?c5 ?_)
 case c3 => unfold maxLen; omega
 case c4 => omega
 case c5 => have := hb1.size; omega
 intro v' w2 hown' hgrow _
 have hlt := at_lt hbk
 have hb2 : w2.heap[b]? = some (.cells #[.pointer (some ⟨b, 0, none⟩), v] T (0, 0)) := by
  rw [hgrow.block b hlt (fun e => hne e.symm)]
  exact hbk
 have d0 : w2.cell? ⟨b, 0, none⟩ = some (.pointer (some ⟨b, 0, none⟩)) := by rw [Lib.cell_of_heap hb2]; rfl
 have d1 : w2.cell? ⟨b, 1, none⟩ = some v := by rw [Lib.cell_of_heap hb2]; rfl
 have f1 : w2.frozen? ⟨b, 1, none⟩ = false := Lib.frozen_of_heap hb2 1
 obtain ⟨ao, n', cap, rfl⟩ : ∃ ao n' cap, v' = .slice ao n' cap := by
  rcases hown'.2 with ⟨hv, _⟩ | ⟨g, cap, cur, fz, hv, _⟩
  · exact ⟨_, _, _, hv⟩
  · exact ⟨_, _, _, hv⟩
 go_wp2
 go_ret2
 refine ⟨rfl, ?_, ?_, (hk1.grown hgrow (Lib.ownsRowF_kind hown)).setCell ⟨b, 1, none⟩ rfl _⟩
 · exact Lib.BuilderAtF.put (T := T) (e := 5) hB hb2 (bs' := bs ++ Lib.strCells s) (by simpa [Lib.strCells_length] using hown') hT.ne
 · exact (hb1.grown hgrow (by have := hb1.size; omega) (fun k hk => (hown.lt k hk).1)).setCell (p := ⟨b, 1, none⟩) hB _
set_option maxHeartbeats 4000000 in
set_option maxRecDepth 100000 in
theorem put4 (B : Nat) (v : Value) (n : Nat) (xs : List Value) (r : Int) (h0 : 65536 ≤ r) (h1 : r ≤ 1114111) (w : World) (hown : w.ownsRowF B 5 1 v n xs) (hlen : n + 4 ≤ 140737488355328) (hBw : B ≤ w.heap.size) :
  Calls Tryz.prog 158 #[v, .int .i32 r] w fun e w' => ∃ v', e = .returned v' ∧ w'.ownsRowF B 5 1 v' (n + 4) (xs ++ [.int .u8 (240 + r / 262144), .int .u8 (128 + r / 4096 % 64), .int .u8 (128 + r / 64 % 64), .int .u8 (128 + r % 64)]) ∧ ∃ o, (w.alloc o).grownBy w' v.ownBlock := by
 obtain ⟨i0, hi, hz0, hz1, hz2⟩ := info_parts info_byte
 go_enter Tryz.func158, Tryz.ntmps158
 go_wp2_with (at_builtin; refine wpList_append_ownF _ rfl _ _ 97 rfl B 5 i0 (.int .u8 0) 1 1 row_byte hi hz0 hz1 hz2 rfl (by decide) _ _ _ rfl (hown.alloc _) ⟨w.heap.size, 0, none⟩ 4 4 [.int .u8 (240 + r / 262144), .int .u8 (128 + r / 4096 % 64), .int .u8 (128 + r / 64 % 64), .int .u8 (128 + r % 64)] rfl rfl ?c1 ?c2 ?c3 ?c4 ?c5 ?_)
 case c1 =>
  intro j u hj
  match j, hj with
  | 0, hj => simp at hj; subst hj; simp [Addr.add]
  | 1, hj => simp at hj; subst hj; simp [Addr.add]
  | 2, hj => simp at hj; subst hj; simp [Addr.add]
  | 3, hj => simp at hj; subst hj; simp [Addr.add]
  | (j + 4), hj => simp at hj
 case c2 => intro u hu; simp at hu; rcases hu with rfl | rfl | rfl | rfl <;> rfl
 case c3 => unfold maxLen; omega
 case c4 => omega
 case c5 => simp; omega
 intro v' w2 hown' hgrow _
 go_wp2
 go_ret
 exact ⟨_, rfl, hown', _, hgrow⟩
theorem ptr_byte : Tryz.prog.underlying 134 = some (.pointer 5) := by kernel_rfl
theorem cells_byte : Tryz.prog.cellsOf 5 = 1 := by kernel_rfl
set_option maxHeartbeats 2000000 in
set_option maxRecDepth 100000 in
theorem got (T : TypeId) (B b : Nat) (l : List UInt8) (w : World) (h : Lib.IsBuilderF T 5 B b (Lib.byteCells l) w) (hBw : B ≤ w.heap.size) :
  Calls Tryz.prog 44 #[.pointer (some ⟨b, 0, none⟩)] w fun e w' => e = .returned (.string ⟨l.toArray⟩) ∧ Below B w w' := by
 obtain ⟨p, hAt⟩ : ∃ p, Lib.BuilderAtF T 5 B b p (Lib.byteCells l) w := by
  rcases h with h | h
  · exact ⟨_, h⟩
  · exact ⟨_, h⟩
 clear h
 obtain ⟨hB, v, hbk, hown, hne⟩ := hAt
 rw [Lib.byteCells_length] at hown
 have hlt := at_lt hbk
 by_cases hl : l = []
 rotate_left
 ·
  have hl0 : l.length ≠ 0 := by simpa using hl
  obtain ⟨g, cap, cur, fz, rfl, hbg, hg, hfz, hnc, hcm, hcs, htake⟩ : ∃ g cap cur fz, v = .slice (some ⟨g, 0, none⟩) l.length cap ∧ B ≤ g ∧ w.heap[g]? = some (.cells cur 5 fz) ∧ fz.2 ≤ l.length * 1 ∧ l.length ≤ cap ∧ cap ≤ maxLen ∧ cur.size = cap * 1 ∧ cur.toList.take (l.length * 1) = Lib.byteCells l := by
   rcases hown.2 with ⟨_, hz⟩ | ⟨g, cap, cur, fz, hv, r⟩
   · exact absurd hz hl0
   · exact ⟨g, cap, cur, fz, hv, r⟩
  have c1 : w.drew.cell? ⟨b, 1, none⟩ = some (.slice (some ⟨g, 0, none⟩) l.length cap) := by
   have : w.drew.heap[b]? = some (.cells #[p, .slice (some ⟨g, 0, none⟩) l.length cap] T (0, 0)) := hbk
   rw [Lib.cell_of_heap this]; rfl
  have hSD : (Builtin.unsafeSliceData_ #[97] 134 #[.slice (some ⟨g, 0, none⟩) l.length cap]).run Tryz.prog w.drew = .ok (.pointer (some ⟨g, 0, none⟩)) w.drew :=
   Lib.run_unsafeSliceData_row _ _ _ _ _ _ (by omega)
  have hUS : (Builtin.unsafeString_ #[134, 3] 9 #[.pointer (some ⟨g, 0, none⟩), .int .i64 l.length]).run Tryz.prog w.drew = .ok (.string ⟨l.toArray⟩) (w.drew.freeze ⟨g, 0, none⟩ l.length) := by
   refine Lib.run_unsafeString_row w.drew 134 3 9 5 ptr_byte cells_byte g cur.size (by have hg' : w.drew.heap[g]? = some (.cells cur 5 fz) := hg; simp [World.shape?, hg']) l hl (by omega) (by unfold maxLen at hcm; omega) ?_
   intro j x hx
   have := hown.cells (g := g) rfl j (.int .u8 x.toNat) (by simp [Lib.byteCells, hx])
   exact this
  clear hown htake hcs hnc hfz
  go_enter Tryz.func44, Tryz.ntmps44
  go_wp2
  go_region
  all_goals (go_wp2; go_ret; exact ⟨rfl, Lib.below_freeze (Below.drew (Below.refl B w)) (p := ⟨g, 0, none⟩) hbg _⟩)
 subst hl
 have hUS : ∀ (W : World) (q : Option Addr), (Builtin.unsafeString_ #[134, 3] 9 #[.pointer q, .int .i64 0]).run Tryz.prog W = .ok (.string .empty) W := fun W q => Lib.run_unsafeString_none W _ _ _ q
 rcases hown.2 with ⟨rfl, _⟩ | ⟨g, cap, cur, fz, rfl, hbg, hg, _, _, _, _, _⟩
 ·
  have c1 : w.drew.cell? ⟨b, 1, none⟩ = some (.slice none 0 0) := by
   have : w.drew.heap[b]? = some (.cells #[p, .slice none 0 0] T (0, 0)) := hbk
   rw [Lib.cell_of_heap this]; rfl
  have hSD : (Builtin.unsafeSliceData_ #[97] 134 #[.slice none 0 0]).run Tryz.prog w.drew = .ok (.pointer none) w.drew := rfl
  clear hown
  go_enter Tryz.func44, Tryz.ntmps44
  go_wp2
  go_region
  all_goals (go_wp2; go_ret; exact ⟨rfl, Below.drew (Below.refl B w)⟩)
 ·
  by_cases hc0 : cap = 0
  rotate_left
  ·
   have c1 : w.drew.cell? ⟨b, 1, none⟩ = some (.slice (some ⟨g, 0, none⟩) 0 cap) := by
    have : w.drew.heap[b]? = some (.cells #[p, .slice (some ⟨g, 0, none⟩) 0 cap] T (0, 0)) := hbk
    rw [Lib.cell_of_heap this]; rfl
   have hSD : (Builtin.unsafeSliceData_ #[97] 134 #[.slice (some ⟨g, 0, none⟩) 0 cap]).run Tryz.prog w.drew = .ok (.pointer (some ⟨g, 0, none⟩)) w.drew :=
    Lib.run_unsafeSliceData_row _ _ _ _ _ _ hc0
   clear hc0 hown
   go_enter Tryz.func44, Tryz.ntmps44
   go_wp2
   go_region
   all_goals (go_wp2; go_ret; exact ⟨rfl, Below.drew (Below.refl B w)⟩)
  subst hc0
  have c1 : w.drew.cell? ⟨b, 1, none⟩ = some (.slice (some ⟨g, 0, none⟩) 0 0) := by
   have : w.drew.heap[b]? = some (.cells #[p, .slice (some ⟨g, 0, none⟩) 0 0] T (0, 0)) := hbk
   rw [Lib.cell_of_heap this]; rfl
  have hSD : (Builtin.unsafeSliceData_ #[97] 134 #[.slice (some ⟨g, 0, none⟩) 0 0]).run Tryz.prog w.drew = .ok (.pointer (some ⟨w.drew.heap.size, 0, none⟩)) (w.drew.alloc (.view ⟨g, 0, none⟩ 5)) :=
   Lib.run_unsafeSliceData_zero w.drew _ _ 5 ptr_byte ⟨g, 0, none⟩ 0 (5, cur.size) (by have hg' : w.drew.heap[g]? = some (.cells cur 5 fz) := hg; simp [World.shape?, hg'])
  have c2 : (w.drew.alloc (.view ⟨g, 0, none⟩ 5)).cell? ⟨b, 1, none⟩ = some (.slice (some ⟨g, 0, none⟩) 0 0) := by
   have : (w.drew.alloc (.view ⟨g, 0, none⟩ 5)).heap[b]? = _ := (Lib.alloc_old w.drew _ b hlt).trans hbk
   rw [Lib.cell_of_heap this]; rfl
  have c3 : (w.alloc (.view ⟨g, 0, none⟩ 5)).drew.cell? ⟨b, 1, none⟩ = some (.slice (some ⟨g, 0, none⟩) 0 0) := c2
  have c0 : w.cell? ⟨b, 1, none⟩ = some (.slice (some ⟨g, 0, none⟩) 0 0) := c1
  clear hown
  go_enter Tryz.func44, Tryz.ntmps44
  go_wp2
  go_region
  all_goals (go_wp2; go_ret; exact ⟨rfl, (Below.drew (Below.refl B w)).alloc hBw _⟩)
end Go.Proofs.YtnjcpoojgmpmeaaGreatDoor.Bld
namespace Go.Proofs.YtnjcpoojgmpmeaaGreatDoor.Utf
def enc (n : Int) : List UInt8 := Lib.encodeRune n
end Go.Proofs.YtnjcpoojgmpmeaaGreatDoor.Utf
namespace Go.Proofs.YtnjcpoojgmpmeaaGreatDoor.Plug
open RowKit YtnjcpoojgmpmeaaGreatDoor YtnjcpoojgmpmeaaGreatDoor.PX YtnjcpoojgmpmeaaGreatDoor.Utf YtnjcpoojgmpmeaaGreatDoorW.PrintWords YtnjcpoojgmpmeaaGreatDoorW.PrintLast
def goF : Nat → List UInt8 → Nat → List Int → List Int × Nat
 | 0, _, i, acc => (acc, i)
 | k + 1, l, i, acc => if i < l.length then (if (dec (l.drop i)).1 < 0 then (acc ++ [(dec (l.drop i)).1], i) else goF k l (i + (dec (l.drop i)).2) (acc ++ [(dec (l.drop i)).1])) else (acc, i)
def goB (l : List UInt8) : List Int × Nat := goF l.length l 0 []
def decodeB (l : List UInt8) : List Int × Int × Int := if (goB l).2 < l.length then ([], 8, ((goB l).2 : Int)) else ((goB l).1, 0, 0)
theorem goF_end (k : Nat) (l : List UInt8) (i : Nat) (acc : List Int) (h : ¬ i < l.length) : goF k l i acc = (acc, i) := by
 cases k with
 | zero => rfl
 | succ k => simp [goF, h]
theorem info_int : (Tryz.prog.info? 3).map (fun i => (i.zero, i.size, i.bytes)) = some (some (.int .i64 0), 1, 8) := by kernel_rfl
theorem row_int : Tryz.prog.underlying 40 = some (.slice 3) := by kernel_rfl
structure Box (B g : Nat) (xs : List Int) (W : World) : Prop where
  ex : ∃ v, W.heap[g]? = some (.cells #[v] 40 (0, 0)) ∧ W.ownsRow B 3 1 v xs.length (nums .i64 xs)
def Stays (B g : Nat) (W W' : World) : Prop := Below B W W' ∧ ∀ k c t, W.heap[k]? = some (.cells c t (0, 0)) → t ≠ 3 → k ≠ g → W'.heap[k]? = some (.cells c t (0, 0))
theorem Stays.refl (B g : Nat) (W : World) : Stays B g W W := ⟨Below.refl B W, fun _ _ _ h _ _ => h⟩
theorem Stays.trans {B g : Nat} {W W1 W2 : World} (h : Stays B g W W1) (h2 : Stays B g W1 W2) : Stays B g W W2 := ⟨h.1.trans h2.1, fun k c t a b d => h2.2 k c t (h.2 k c t a b d) b d⟩
theorem Stays.of_below {B g : Nat} {W W1 : World} (h : Below W.heap.size W W1) (hB : B ≤ W.heap.size) : Stays B g W W1 :=
  ⟨h.mono hB, fun k _ _ a _ _ => (h.block k (Bld.at_lt a)).trans a⟩
theorem Box.of_below {B g : Nat} {xs : List Int} {W W1 : World} (h : Box B g xs W) (hb : Below W.heap.size W W1) : Box B g xs W1 := by
 obtain ⟨v, h1, h2⟩ := h.ex
 exact ⟨v, (hb.block g (Bld.at_lt h1)).trans h1, own_move h2 (fun k hk => hb.block k (own_lt h2 k hk))⟩
set_option maxHeartbeats 2000000 in
set_option maxRecDepth 100000 in
theorem on_is (x : Int) (B g : Nat) (xs : List Int) (W : World) (hbx : Box B g xs W) (hlen : xs.length + 1 ≤ 1099511627776) (hB : B ≤ g) (hBw : B ≤ W.heap.size) :
  Calls Tryz.prog 92 #[.int .i64 x, .pointer (some ⟨g, 0, none⟩)] W fun e w' => e = .returned (.bool (decide (x ≥ 0))) ∧ Box B g (xs ++ [x]) w' ∧ Stays B g W w' := by
 obtain ⟨v, hg, hown⟩ := hbx.ex
 clear hbx
 obtain ⟨i0, hi, hz0, hz1, hz2⟩ := info_parts info_int
 have c0 : W.cell? ⟨g, 0, none⟩ = some v := by rw [Lib.cell_of_heap hg]; rfl
 have hne := own_ne hown hg (by decide)
 go_enter Tryz.func92, Tryz.ntmps92
 go_wp2_with (at_builtin; refine wpList_append_own _ rfl _ _ 40 rfl B 3 i0 (.int .i64 0) 1 8 row_int hi hz0 hz1 hz2 rfl (by decide) _ _ _ rfl (hown.alloc _) ⟨W.heap.size, 0, none⟩ 1 1 [.int .i64 x] rfl rfl ?c1 ?c2 ?c3 ?c4 ?c5 ?_)
 case c1 =>
  intro j u hj
  match j, hj with
  | 0, hj => simp at hj; subst hj; simp [Addr.add]
 case c2 => intro u hu; simp at hu; subst hu; rfl
 case c3 => unfold maxLen; omega
 case c4 => omega
 case c5 => simp; omega
 intro v' w2 hown' hgrow _
 obtain ⟨ao, cap, rfl⟩ : ∃ ao cap, v' = .slice ao (xs.length + 1) cap := own_slice hown'
 have hlt := Bld.at_lt hg
 have hb2 : w2.heap[g]? = some (.cells #[v] 40 (0, 0)) := by
  rw [hgrow.block g (by simp; omega) hne, Lib.alloc_old W _ g hlt]
  exact hg
 have d0 : w2.cell? ⟨g, 0, none⟩ = some v := by rw [Lib.cell_of_heap hb2]; rfl
 have f0 : w2.frozen? ⟨g, 0, none⟩ = false := Lib.frozen_of_heap hb2 0
 have hne2 := own_ne hown' hb2 (by decide)
 have HR : Hid (Box B g (xs ++ [x]) (w2.setCell ⟨g, 0, none⟩ (.slice ao (xs.length + 1) cap)) ∧ Stays B g W (w2.setCell ⟨g, 0, none⟩ (.slice ao (xs.length + 1) cap))) := by
  refine Lib.hid ⟨⟨.slice ao (xs.length + 1) cap, ?_, ?_⟩, ?_, ?_⟩
  · exact blk_set hb2 0 _
  ·
   have h3 := own_setCell (p := ⟨g, 0, none⟩) hown' hne2 (.slice ao (xs.length + 1) cap)
   rw [List.length_append, List.length_singleton, nums_append]
   exact h3
  · exact ((((Below.refl B W).alloc hBw _).grown hgrow (by simp; omega) (fun k hk => own_base hown k hk)).setCell (p := ⟨g, 0, none⟩) hB _)
  ·
   intro k c t hk ht hkg
   rw [Below.heap_setCell w2 ⟨g, 0, none⟩ _ k hkg, hgrow.block k (by have := Bld.at_lt hk; simp; omega) (own_ne hown hk (Ne.symm ht)), Lib.alloc_old W _ k (Bld.at_lt hk)]
   exact hk
 clear hown hown' hgrow hg hne hne2
 go_wp2
 go_ret
 exact ⟨rfl, HR.out⟩
set_option maxHeartbeats 2000000 in
theorem walk_dec (s : ByteArray) (B g : Nat) (w w0 : World) (hG : Glob.G w0) (hw0 : Below B w0 w) (hB0 : w0.heap.size = B) (hs : s.size ≤ 1099511627775) (hbx : Box B g [] w) (hB : B ≤ g) (hBw : B ≤ w.heap.size) :
  Calls Tryz.prog 91 #[.string s, .func (.func 92) #[] #[.pointer (some ⟨g, 0, none⟩)]] w fun e w' => e = .returned (.int .i64 (goB s.data.toList).2) ∧ Box B g (goB s.data.toList).1 w' ∧ Stays B g w w' := by
 have hL := Lib.hid (size_list s)
 go_enter Tryz.func91, Tryz.ntmps91
 go_wp2
 go_loopw [5] (fun a wr => ∃ (i k : Nat) (xs : List Int), i ≤ s.size ∧ s.size ≤ i + k ∧ xs.length ≤ i ∧ Hid (goF k s.data.toList i xs = goB s.data.toList) ∧ a = .int .i64 i ∧ Box B g xs wr ∧ Stays B g w wr) (fun a _ => s.size - (intOf a).toNat)
 case atStart => exact ⟨0, s.size, [], Nat.zero_le _, by omega, Nat.le_refl _, by rw [hL.out]; rfl, rfl, hbx, Stays.refl _ _ _⟩
 case round =>
  obtain ⟨i, k, xs, hi, hk, hxl, hst, rfl, hbx, hb⟩ := hrel
  have hGr : Glob.G wr := hG.below (by rw [hB0]; exact hw0.trans hb.1)
  by_cases hlt : i < s.size
  rotate_left
  ·
   have hc : decide ((i : Int) < (s.size : Int)) = false := by simp; omega
   have HE := Lib.hid (hst.out.symm.trans (goF_end k s.data.toList i xs (by rw [← hL.out]; exact hlt)))
   clear hst
   go_wp2
   go_ret
   exact ⟨by rw [HE.out]; rfl, by rw [HE.out]; exact hbx, hb⟩
  have hne : s.data.toList.drop i ≠ [] := by
   intro e; have h2 := congrArg List.length e; rw [List.length_drop, ← hL.out, List.length_nil] at h2; omega
  have hw := dec_wide _ hne
  have hf := prog_first (s.extract i s.size)
  rw [drop_list] at hf
  have hlen : (s.data.toList.drop i).length = s.size - i := by rw [List.length_drop, ← hL.out]
  have hstep : goF k s.data.toList i xs = if (dec (s.data.toList.drop i)).1 < 0 then (xs ++ [(dec (s.data.toList.drop i)).1], i) else goF (k - 1) s.data.toList (i + (dec (s.data.toList.drop i)).2) (xs ++ [(dec (s.data.toList.drop i)).1]) := by
   obtain ⟨k, rfl⟩ : ∃ m, k = m + 1 := ⟨k - 1, by omega⟩
   rw [goF, if_pos (by have := hL.out; omega)]; rfl
  generalize dec (s.data.toList.drop i) = d at *
  obtain ⟨r, n⟩ := d
  simp only at hw hf hstep
  rw [hlen] at hw
  obtain ⟨hw1, hw2, hw3⟩ := hw
  have HF := Lib.hid hf; have HS := Lib.hid hstep
  clear hf hstep hlen hne
  by_cases hr : r < 0
  ·
   rw [if_pos hr] at HS
   have hge : decide (r ≥ 0) = false := by simp; omega
   have HQ := Lib.hid (hst.out.symm.trans HS.out)
   clear hst HS
   go_wp2_with (first | (go_at_call 113; refine (utf_First.calls _ _ _ _ hGr HF.out).mono ?_; rintro e w1 ⟨rfl, hb1⟩) | (go_at_call 92; refine (on_is r B g xs _ (hbx.of_below hb1) (by omega) hB (Nat.le_trans hBw (Nat.le_trans hb.1.size hb1.size))).mono ?_; rw [hge]; rintro e w2 ⟨rfl, hbx2, hs2⟩))
   go_ret
   exact ⟨by rw [HQ.out]; rfl, by rw [HQ.out]; exact hbx2, hb.trans ((Stays.of_below hb1 (Nat.le_trans hBw hb.1.size)).trans hs2)⟩
  rw [if_neg hr] at HS
  have hge : decide (r ≥ 0) = true := by simp; omega
  have HQ := Lib.hid (HS.out.symm.trans hst.out)
  clear hst HS
  go_wp2_with (first | (go_at_call 113; refine (utf_First.calls _ _ _ _ hGr HF.out).mono ?_; rintro e w1 ⟨rfl, hb1⟩) | (go_at_call 92; refine (on_is r B g xs _ (hbx.of_below hb1) (by omega) hB (Nat.le_trans hBw (Nat.le_trans hb.1.size hb1.size))).mono ?_; rw [hge]; rintro e w2 ⟨rfl, hbx2, hs2⟩))
  have hall := hb.trans ((Stays.of_below hb1 (Nat.le_trans hBw hb.1.size)).trans hs2)
  go_roundw
  case rel => exact ⟨i + n, k - 1, xs ++ [r], by omega, by omega, by rw [List.length_append]; simp; omega, Lib.hid HQ.out, by go_num, hbx2, hall⟩
  case measure => simp [intOf]; omega
theorem two_set {w2 : World} {B t : Nat} {x y : Value} (h : w2.heap[B]? = some (.cells #[x, y] t (0, 0))) (a b : Value) (o : Obj) :
  (((w2.setCell ⟨B, 0, none⟩ a).setCell ⟨B, 1, none⟩ b).alloc o).cell? ⟨B, 0, none⟩ = some a ∧ (((w2.setCell ⟨B, 0, none⟩ a).setCell ⟨B, 1, none⟩ b).alloc o).cell? ⟨B, 1, none⟩ = some b := by
 have h1 := blk_set h 0 a
 have h2 := blk_set h1 1 b
 have h3 : (((w2.setCell ⟨B, 0, none⟩ a).setCell ⟨B, 1, none⟩ b).alloc o).heap[B]? = some (.cells ((#[x, y].setIfInBounds 0 a).setIfInBounds 1 b) t (0, 0)) := (Lib.alloc_old _ _ _ (Bld.at_lt h2)).trans h2
 exact ⟨by rw [blk_cell h3]; rfl, by rw [blk_cell h3]; rfl⟩
def utf_Decode.f (a0 : ByteArray) : Option (List Int × Int × Int) := if a0.size ≤ 1099511627775 then some (decodeB a0.data.toList) else none
set_option maxHeartbeats 2000000 in
set_option maxRecDepth 100000 in
theorem utf_Decode.calls (a0 : ByteArray) (r1 : List Int) (r2 r3 : Int) (w : World) (hG : Glob.G w) (h : utf_Decode.f a0 = some (r1, r2, r3)) :
  Calls Tryz.prog 77 #[.string a0] w fun e w' => ∃ v0_ : Value, e = .returned (.tuple #[v0_, .agg #[.int .i64 r2, .int .i64 r3]]) ∧ Kd.R (Kd.int .i64) 3 w' w.heap.size (fun _ => True) v0_ r1 ∧ Below w.heap.size w w' := by
 unfold utf_Decode.f at h
 by_cases c : a0.size ≤ 1099511627775
 rotate_left
 · rw [if_neg c] at h; cases h
 rw [if_pos c] at h
 have hL := size_list a0
 unfold decodeB at h
 rw [← hL] at h
 have hH : Glob.G ((w.alloc (.cells #[.int .i64 0, .int .i64 0] 143)).alloc (.cells #[.slice none 0 0] 40)) := hG.below (((Below.refl _ w).alloc (Nat.le_refl _) _).alloc (by simp) _)
 obtain ⟨W0, hW0⟩ : ∃ W0, W0 = (w.alloc (.cells #[.int .i64 0, .int .i64 0] 143)).alloc (.cells #[.slice none 0 0] 40) := ⟨_, rfl⟩
 have hbx : Box w.heap.size (w.heap.size + 1) [] W0 := by
  refine ⟨.slice none 0 0, ?_, ?_⟩
  · rw [hW0]; have := heap_alloc_new (w.alloc (.cells #[.int .i64 0, .int .i64 0] 143)) (.cells #[.slice none 0 0] 40); simpa using this
  · exact ⟨rfl, .inl ⟨rfl, rfl⟩⟩
 have hf0 : W0.heap[w.heap.size]? = some (.cells #[.int .i64 0, .int .i64 0] 143 (0, 0)) := by
  rw [hW0, Lib.alloc_old _ _ _ (by simp)]; exact heap_alloc_new w _
 have hbel : Below w.heap.size w W0 := by rw [hW0]; exact ((Below.refl _ w).alloc (Nat.le_refl _) _).alloc (by simp) _
 have hsz : w.heap.size ≤ W0.heap.size := hbel.size
 have HW := Lib.hid (walk_dec a0 w.heap.size (w.heap.size + 1) W0 w hG hbel rfl c hbx (by omega) hsz)
 subst hW0
 go_enter Tryz.func77, Tryz.ntmps77
 go_wp2_with (first | (go_at_call 91; refine HW.out.mono ?_; rintro e w1 ⟨rfl, hbx1, hs1⟩))
 have hbel1 := hbel.trans hs1.1
 have hG1 := hG.below hbel1
 by_cases q : (goB a0.data.toList).2 < a0.size
 ·
  rw [if_pos q] at h
  simp only [Option.some.injEq, Prod.mk.injEq] at h
  obtain ⟨rfl, rfl, rfl⟩ := h
  have h2 : utf_fault.f a0 (goB a0.data.toList).2 = some (8, ((goB a0.data.toList).2 : Int)) := by unfold utf_fault.f; rw [if_pos (by omega)]
  have H2 := Lib.hid h2
  clear h2 HW q
  go_wp2_with (first | (go_at_call 93; refine (utf_fault.calls _ _ _ _ _ hG1 H2.out).mono ?_; rintro e w2 ⟨rfl, hb2⟩; have hf2 := (hb2.block w.heap.size (Bld.at_lt (hs1.2 _ _ _ hf0 (by decide) (by omega)))).trans (hs1.2 _ _ _ hf0 (by decide) (by omega)); have hc0 : w2.cell? ⟨w.heap.size, 0, none⟩ = some (.int .i64 0) := by { rw [blk_cell hf2]; rfl }; have hc1 : w2.cell? ⟨w.heap.size, 1, none⟩ = some (.int .i64 0) := by { rw [blk_cell hf2]; rfl }; have hz0 := blk_frozen hf2 0; have hz1 := blk_frozen hf2 1; have hz := Bld.at_lt hf2))
  have HBel := Lib.hid (hbel1.trans (hb2.mono hbel1.size))
  have hzz := hb2.size
  go_region
  all_goals
   go_wp2
   have hset := two_set hf2 (.int .i64 8) (.int .i64 (goB a0.data.toList).2) (.cells #[.int .i64 8, .int .i64 (goB a0.data.toList).2] 143)
   refine bodyPost_ret (v := .tuple #[.slice none 0 0, .agg #[.int .i64 8, .int .i64 (goB a0.data.toList).2]]) (by simp [results, Tryz.results77, go_sem, hset.1, hset.2]) rfl ?_
   refine ⟨.slice none 0 0, rfl, Kd.R_nil _ _ _ _ _, ?_⟩
   exact Below.drew ((((HBel.out.setCell (p := ⟨w.heap.size, 0, none⟩) (Nat.le_refl _) _).setCell (p := ⟨w.heap.size, 1, none⟩) (Nat.le_refl _) _).alloc (by simp; omega) _))
 rw [if_neg q] at h
 simp only [Option.some.injEq, Prod.mk.injEq] at h
 obtain ⟨rfl, rfl, rfl⟩ := h
 have h2 : utf_fault.f a0 (goB a0.data.toList).2 = some (0, 0) := by unfold utf_fault.f; rw [if_neg (by omega)]
 have H2 := Lib.hid h2
 clear h2 HW q
 generalize (goB a0.data.toList).2 = n at *
 go_wp2_with (first | (go_at_call 93; refine (utf_fault.calls _ _ _ _ _ hG1 H2.out).mono ?_; rintro e w2 ⟨rfl, hb2⟩; have hf2 := (hb2.block w.heap.size (Bld.at_lt (hs1.2 _ _ _ hf0 (by decide) (by omega)))).trans (hs1.2 _ _ _ hf0 (by decide) (by omega)); have hc0 : w2.cell? ⟨w.heap.size, 0, none⟩ = some (.int .i64 0) := by { rw [blk_cell hf2]; rfl }; have hc1 : w2.cell? ⟨w.heap.size, 1, none⟩ = some (.int .i64 0) := by { rw [blk_cell hf2]; rfl }; have hz0 := blk_frozen hf2 0; have hz1 := blk_frozen hf2 1; have hz := Bld.at_lt hf2; obtain ⟨v, hg2, hown⟩ := (hbx1.of_below hb2).ex; have hcg : w2.cell? ⟨w.heap.size + 1, 0, none⟩ = some v := by { rw [blk_cell hg2]; rfl }; obtain ⟨ao, cap, rfl⟩ := own_slice hown; have hzg := Bld.at_lt hg2))
 have HBel := Lib.hid (hbel1.trans (hb2.mono hbel1.size))
 have hzz := hb2.size
 have hset := two_set hf2 (.int .i64 0) (.int .i64 0) (.cells #[.int .i64 0, .int .i64 0] 143)
 refine bodyPost_ret (v := .tuple #[.slice ao (goB a0.data.toList).1.length cap, .agg #[.int .i64 0, .int .i64 0]]) (by simp [results, Tryz.results77, go_sem, hset.1, hset.2]) rfl ?_
 refine ⟨_, rfl, ?_, ((HBel.out.setCell (p := ⟨w.heap.size, 0, none⟩) (Nat.le_refl _) _).setCell (p := ⟨w.heap.size, 1, none⟩) (Nat.le_refl _) _).alloc (by simp; omega) _⟩
 have hne := own_ne hown hf2 (by decide)
 have hR : Kd.R (Kd.int .i64) 3 w2 w.heap.size (fun k => k ≠ w.heap.size) (.slice ao (goB a0.data.toList).1.length cap) (goB a0.data.toList).1 := Kd.R_of_own hown (fun k hk e => hne (by rw [hk, e]))
 exact Kd.R_mono (Kd.R_alloc (Kd.R_far (Kd.R_far hR (fun k hk => hk) _) (fun k hk => hk) _) _) (fun _ _ => trivial)
end Go.Proofs.YtnjcpoojgmpmeaaGreatDoor.Plug
namespace Go.Proofs.YtnjcpoojgmpmeaaGreatDoor.PX
open RowKit YtnjcpoojgmpmeaaGreatDoorW.PrintWords YtnjcpoojgmpmeaaGreatDoorW.PrintLast YtnjcpoojgmpmeaaGreatDoorW.PrintMore YtnjcpoojgmpmeaaGreatDoor YtnjcpoojgmpmeaaGreatDoor.Plug
attribute [local go_sem] max2_int min2_int max_two min_two max_three min_three max_four min_four   -- for this text's walks alone
set_option linter.unusedVariables false
set_option linter.unusedSimpArgs false
attribute [local go_sem high] eqA143
def flow_isText.j0 : Nat → Int → ByteArray → Int → Bool → Option (Bool)
  | 0, _, _, _, _ => none
  | k + 1, x0, x1, x7, x8 => if x8 = true then ((plain_Resolve.f x1).bind fun t101 => (some (t101 == x0))) else (if x7 = 4 then ((utf_Decode.f x1).bind fun bt102 => (some (bt102.2.1 == 0 && (bt102.2.2 == 0)))) else (some (x1.toList == ([] : List UInt8))))
def flow_isText.f (k : Nat) (a0 : Int) (a1 : ByteArray) : Option (Bool) := if a0 = 2 then (flow_isText.j0 k a0 a1 a0 (a0 == 2)) else (flow_isText.j0 k a0 a1 a0 (a0 == 3))
theorem qda0_ {P : Prop} (h_ : P := by repeat (first | (with_reducible first | exact HB.out | apply below_alloc | apply pw_below_drewN | apply below_drew1) | exact HB.out)) : P := h_
theorem qda1_ {P : Prop} (h_ : P := by first | ((repeat (first | (with_reducible first | exact HB.out | apply below_alloc | apply pw_below_drewN | apply below_drew1 | (refine Glob.below_set ?_ (by assumption) _ _ _)) | exact HB.out)); done) | (refine Drawn0.below ?_; repeat (first | exact Drawn0.refl _ | assumption | apply Drawn0.step))) : P := h_
theorem qda2_ {P : Prop} (h_ : P := by first | rfl | (simp [errW_none, errW_some] <;> rfl) | (simp [*, errW_none, errW_some] <;> rfl)) : P := h_
theorem qda3_ {P : Prop} (h_ : P := by (try simp only [List.map_toArray, List.map_cons, List.map_nil]); first | done | rfl | (simp only [List.length_drop, List.length_take]; rfl)) : P := h_
set_option maxHeartbeats 8000000 in
set_option maxRecDepth 100000 in
theorem flow_isText.calls (k : Nat) (a0 : Int) (a1 : ByteArray) (r : Bool) (w : World) (hG : Glob.G w) (h : flow_isText.f k a0 a1 = some r) :
  Calls Tryz.prog 59 #[.int .i64 a0, .string a1] w fun e w' => e = .returned (.bool r) ∧ Below w.heap.size w w' := by
 have hu143 := Tryz.underlying143
 have HB := Aside0.mk (Below.refl w.heap.size w)
 have H : (if a0 = 2 then (flow_isText.j0 k a0 a1 a0 (a0 == 2)) else (flow_isText.j0 k a0 a1 a0 (a0 == 3))) = some r := h
 clear h
 have HC3 := Aside0.mk H
 clear H
 go_enter Tryz.func59, Tryz.ntmps59
 go_upto_if 8 with (fail)
 go_cut [8] (fun v8 wc => ∃ (kq : Nat) (x8_2 : Bool), v8 = .bool x8_2 ∧ Aside0 (flow_isText.j0 kq a0 a1 a0 x8_2 = some r) ∧ Aside0 (kq ≤ k) ∧ Aside0 (Below w.heap.size w wc))
 case first =>
  have H := HC3.out
  clear HC3
  by_cases c4 : a0 = 2
  rotate_left
  ·
   rw [if_neg c4] at H
   have c4b0 : (a0 == 2) = false := beq_eq_false_iff_ne.mpr c4
   have c4b1 : (a0 != 2) = true := bne_iff_ne.mpr c4
   (first | rw [c4b0] | (simp only [i64_w, i32_w]; rw [c4b0]) | skip)
   have H' := Aside0.mk H
   clear H
   go_wp2
   go_meet
   case rel => exact ⟨_, ((a0 == 3)), (by first | rfl | (simp; done) | (simp [*]; done)), H', ⟨by first | omega | exact Nat.le_refl _⟩, ⟨qda0_⟩⟩
  rw [if_pos c4] at H
  have c4b0 : (a0 == 2) = true := beq_iff_eq.mpr c4
  have c4b1 : (a0 != 2) = false := bne_eq_false_iff_eq.mpr c4
  clear c4
  (first | rw [c4b0] | (simp only [i64_w, i32_w]; rw [c4b0]) | skip)
  have H' := Aside0.mk H
  clear H
  go_wp2
  go_meet
  case rel => exact ⟨_, ((a0 == 2)), (by first | rfl | (simp; done) | (simp [*]; done)), H', ⟨by first | omega | exact Nat.le_refl _⟩, ⟨qda0_⟩⟩
 case rest =>
  clear HC3
  try clear p2
  try clear c4
  try clear c4b0
  try clear c4b1
  obtain ⟨kq, x8_2, rfl, HA, HJ2, HB⟩ := hcut
  cases kq with
  | zero => exact absurd HA.out (by simp [flow_isText.j0])
  | succ kj2 =>
   have H := HA.out
   clear HA
   simp only [flow_isText.j0] at H
   by_cases c5 : x8_2 = true
   ·
    subst c5
    have H1 : ((plain_Resolve.f a1).bind fun t101 => (some (t101 == a0))) = some r := by rw [if_pos rfl] at H; exact H
    clear H
    have H := H1
    clear H1
    replace H := Option.bind_eq_some_iff.mp H
    obtain ⟨t101, A60, H⟩ := H
    replace H : (some (t101 == a0)) = some r := H
    have A6 := Aside0.mk A60
    clear A60
    obtain rfl := Option.some.inj H
    go_wp2_with (first | ((with_reducible refine gate_callee (f := 76) rfl ?_); refine goesL_ (some 12) rfl rfl Tryz.func76 (by kernel_rfl) rfl #[.string a1] rfl (qda3_) ?_; (with_reducible refine (plain_Resolve.calls a1 t101 _ (hG.below (qda1_)) A6.out).mono ?_); rintro e w7 ⟨rfl, hb⟩; refine ⟨_, rfl, ?_⟩; have n0_ := Aside0.mk (below_step (qda0_) hb); clear HB; have HB := n0_; clear n0_; (try clear hb)))
    go_ret
    exact ⟨qda2_, qda0_⟩
   replace c5 := Bool.eq_false_iff.mpr c5
   subst c5
   have H1 : (if a0 = 4 then ((utf_Decode.f a1).bind fun bt102 => (some (bt102.2.1 == 0 && (bt102.2.2 == 0)))) else (some (a1.toList == ([] : List UInt8)))) = some r := by rw [if_neg (show ¬ (false = true) by decide)] at H; exact H
   clear H
   have H := H1
   clear H1
   by_cases c8 : a0 = 4
   rotate_left
   ·
    rw [if_neg c8] at H
    have c8b0 : (a0 == 4) = false := beq_eq_false_iff_ne.mpr c8
    have c8b1 : (a0 != 4) = true := bne_iff_ne.mpr c8
    obtain rfl := Option.some.inj H
    go_wp2
    go_ret
    exact ⟨qda2_, qda0_⟩
   rw [if_pos c8] at H
   have c8b0 : (a0 == 4) = true := beq_iff_eq.mpr c8
   have c8b1 : (a0 != 4) = false := bne_eq_false_iff_eq.mpr c8
   clear c8
   replace H := Option.bind_eq_some_iff.mp H
   obtain ⟨⟨t102, t105, t106⟩, A90, H⟩ := H
   replace H : (some (t105 == 0 && (t106 == 0))) = some r := H
   have A9 := Aside0.mk A90
   clear A90
   obtain rfl := Option.some.inj H
   go_wp2_with (first | ((with_reducible refine gate_callee (f := 77) rfl ?_); refine goesL_ (some 19) rfl rfl Tryz.func77 (by kernel_rfl) rfl #[.string a1] rfl (qda3_) ?_; (with_reducible refine (utf_Decode.calls a1 t102 t105 t106 _ (hG.below (qda1_)) A9.out).mono ?_); rintro e w10 ⟨v103, rfl, ho0, hb⟩; refine ⟨_, rfl, ?_⟩; have n0_ := Aside0.mk (Kd.R_lower ho0 (below_size (qda0_))); have n1_ := Aside0.mk (below_step (qda0_) hb); clear HB; have HO104 := n0_; have HB := n1_; clear n0_ n1_; (try clear hb); (try clear ho0)) | ((with_reducible refine gate_dst (N := 6) rfl ?_); refine box_event ?hg (N := 6) ?hd (cs := #[.int .i64 0, .int .i64 0]) (t := 143) ?hr ?_; (case hd => rfl); (case hg => rfl); (case hr => first | (go_simp; done) | (go_simp; rfl)); intro gb107 hg w11 hbox hb; have n0_ := Aside0.mk (Kd.R_below (by (with_reducible repeat (first | apply Kd.R_alloc | apply Kd.R_drewN | apply Kd.R_drew)); exact HO104.out) hb); have n1_ := Aside0.mk (below_step (qda0_) hb); have n2_ := Aside0.mk (hbox); have n3_ := Aside0.mk ((by rw [hg]; exact (below_size (qda0_)) : w.heap.size ≤ gb107)); have n4_ := Aside0.mk ((by rw [hg]; exact (below_size (qda0_)) : w.heap.size ≤ gb107)); clear HO104; clear HB; have HO104 := n0_; have HB := n1_; have BK107 := n2_; have GW107 := n3_; have GE107 := n4_; clear n0_ n1_ n2_ n3_ n4_; clear hb hbox hg; have hcz12_0 : w11.cell? ⟨gb107, 0, none⟩ = some (.int .i64 0) := (blk_cell BK107.out 0).trans rfl; have hcz12_1 : w11.cell? ⟨gb107, 1, none⟩ = some (.int .i64 0) := (blk_cell BK107.out 1).trans rfl; have hfz12_0 := blk_frozen BK107.out 0; have hfz12_1 := blk_frozen BK107.out 1))
   go_ret
   exact ⟨qda2_, by repeat (first | (with_reducible first | exact HB.out | apply below_alloc | apply pw_below_drewN | apply below_drew1 | refine below_set ?_ GE107.out) | exact HB.out)⟩
end Go.Proofs.YtnjcpoojgmpmeaaGreatDoor.PX
namespace Go.Proofs.YtnjcpoojgmpmeaaGreatDoor.PX
open RowKit YtnjcpoojgmpmeaaGreatDoorW.PrintWords YtnjcpoojgmpmeaaGreatDoorW.PrintLast YtnjcpoojgmpmeaaGreatDoorW.PrintMore YtnjcpoojgmpmeaaGreatDoor YtnjcpoojgmpmeaaGreatDoor.Plug
attribute [local go_sem] max2_int min2_int max_two min_two max_three min_three max_four min_four   -- for this text's walks alone
set_option linter.unusedVariables false
set_option linter.unusedSimpArgs false
def flow_Name.f (a0 : ByteArray) : Option (Bool) := if a0.toList = ([] : List UInt8) then (some false) else (if (a0.size : Int) ≤ 32 then ((strings_Trim.f a0 (⟨#[97, 98, 99, 100, 101, 102, 103, 104, 105, 106, 107, 108, 109, 110, 111, 112, 113, 114, 115, 116, 117, 118, 119, 120, 121, 122, 65, 66, 67, 68, 69, 70, 71, 72, 73, 74, 75, 76, 77, 78, 79, 80, 81, 82, 83, 84, 85, 86, 87, 88, 89, 90, 48, 49, 50, 51, 52, 53, 54, 55, 56, 57, 45, 95]⟩ : ByteArray)).bind fun t101 => (some (t101.toList == ([] : List UInt8)))) else (some false))
theorem qoa0_ {P : Prop} (h_ : P := by repeat (first | (with_reducible first | exact HB.out | apply below_alloc | apply pw_below_drewN | apply below_drew1) | exact HB.out)) : P := h_
theorem qoa1_ {P : Prop} (h_ : P := by first | rfl | (simp [errW_none, errW_some] <;> rfl) | (simp [*, errW_none, errW_some] <;> rfl)) : P := h_
set_option maxHeartbeats 8000000 in
set_option maxRecDepth 100000 in
theorem flow_Name.calls (a0 : ByteArray) (r : Bool) (w : World) (hG : Glob.G w) (h : flow_Name.f a0 = some r) :
  Calls Tryz.prog 60 #[.string a0] w fun e w' => e = .returned (.bool r) ∧ Below w.heap.size w w' := by
 have HB := Aside0.mk (Below.refl w.heap.size w)
 have H : (if a0.toList = ([] : List UInt8) then (some false) else (if (a0.size : Int) ≤ 32 then ((strings_Trim.f a0 (⟨#[97, 98, 99, 100, 101, 102, 103, 104, 105, 106, 107, 108, 109, 110, 111, 112, 113, 114, 115, 116, 117, 118, 119, 120, 121, 122, 65, 66, 67, 68, 69, 70, 71, 72, 73, 74, 75, 76, 77, 78, 79, 80, 81, 82, 83, 84, 85, 86, 87, 88, 89, 90, 48, 49, 50, 51, 52, 53, 54, 55, 56, 57, 45, 95]⟩ : ByteArray)).bind fun t101 => (some (t101.toList == ([] : List UInt8)))) else (some false))) = some r := h
 clear h
 by_cases c2 : a0.toList = ([] : List UInt8)
 ·
  rw [if_pos c2] at H
  have c2b0 : (a0.toList == ([] : List UInt8)) = true := beq_iff_eq.mpr c2
  have c2b1 : (a0.toList != ([] : List UInt8)) = false := bne_eq_false_iff_eq.mpr c2
  clear c2
  obtain rfl := Option.some.inj H
  go_enter Tryz.func60, Tryz.ntmps60
  go_wp2
  go_ret
  exact ⟨qoa1_, qoa0_⟩
 rw [if_neg c2] at H
 have c2b0 : (a0.toList == ([] : List UInt8)) = false := beq_eq_false_iff_ne.mpr c2
 have c2b1 : (a0.toList != ([] : List UInt8)) = true := bne_iff_ne.mpr c2
 by_cases c3 : (a0.size : Int) ≤ 32
 rotate_left
 ·
  rw [if_neg c3] at H
  have c3b0 : decide ((a0.size : Int) ≤ 32) = false := decide_eq_false c3
  have c3b1 : decide (a0.size ≤ 32) = false := decide_eq_false (by omega)
  clear c3
  obtain rfl := Option.some.inj H
  go_enter Tryz.func60, Tryz.ntmps60
  go_wp2
  go_ret
  exact ⟨qoa1_, qoa0_⟩
 rw [if_pos c3] at H
 have c3b0 : decide ((a0.size : Int) ≤ 32) = true := decide_eq_true c3
 have c3b1 : decide (a0.size ≤ 32) = true := decide_eq_true (by omega)
 clear c3
 replace H := Option.bind_eq_some_iff.mp H
 obtain ⟨t101, A40, H⟩ := H
 replace H : (some (t101.toList == ([] : List UInt8))) = some r := H
 have A4 := Aside0.mk A40
 clear A40
 obtain rfl := Option.some.inj H
 go_enter Tryz.func60, Tryz.ntmps60
 go_wp2_with (first | (go_at_call 78; (with_reducible refine (strings_Trim.calls a0 (⟨#[97, 98, 99, 100, 101, 102, 103, 104, 105, 106, 107, 108, 109, 110, 111, 112, 113, 114, 115, 116, 117, 118, 119, 120, 121, 122, 65, 66, 67, 68, 69, 70, 71, 72, 73, 74, 75, 76, 77, 78, 79, 80, 81, 82, 83, 84, 85, 86, 87, 88, 89, 90, 48, 49, 50, 51, 52, 53, 54, 55, 56, 57, 45, 95]⟩ : ByteArray) t101 _ (hG.below (by first | ((repeat (first | (with_reducible first | exact HB.out | apply below_alloc | apply pw_below_drewN | apply below_drew1 | (refine Glob.below_set ?_ (by assumption) _ _ _)) | exact HB.out)); done) | (refine Drawn0.below ?_; repeat (first | exact Drawn0.refl _ | assumption | apply Drawn0.step)))) A4.out).mono ?_); rintro e w5 ⟨rfl, hb⟩; have n0_ := Aside0.mk (below_step (qoa0_) hb); clear HB; have HB := n0_; clear n0_; (try clear hb)))
 go_ret
 exact ⟨qoa1_, qoa0_⟩
end Go.Proofs.YtnjcpoojgmpmeaaGreatDoor.PX
namespace Go.Proofs.YtnjcpoojgmpmeaaGreatDoor.PX
open RowKit YtnjcpoojgmpmeaaGreatDoorW.PrintWords YtnjcpoojgmpmeaaGreatDoorW.PrintLast YtnjcpoojgmpmeaaGreatDoorW.PrintMore YtnjcpoojgmpmeaaGreatDoor
attribute [local go_sem] max2_int min2_int max_two min_two max_three min_three max_four min_four   -- for this text's walks alone
set_option linter.unusedVariables false
set_option linter.unusedSimpArgs false
def flow_isScalar.f (a0 : Int) : Option (Bool) := if a0 ≥ 1 then (some (decide (a0 ≤ 4))) else (some false)
theorem qpa0_ {P : Prop} (h_ : P := by first | rfl | (simp; done) | (simp [*]; done) | (simp; generalize ByteArray.toList _ = l_; cases l_ <;> rfl)) : P := h_
set_option maxHeartbeats 8000000 in
set_option maxRecDepth 100000 in
theorem flow_isScalar.calls (a0 : Int) (r : Bool) (w : World) (hG : Glob.G w) (h : flow_isScalar.f a0 = some r) :
  Calls Tryz.prog 61 #[.int .i64 a0] w fun e w' => e = .returned (.bool r) ∧ Drawn0 w w' := by
 have H : (if a0 ≥ 1 then (some (decide (a0 ≤ 4))) else (some false)) = some r := h
 clear h
 by_cases c2 : a0 ≥ 1
 ·
  rw [if_pos c2] at H
  have c2b0 : decide (1 ≤ a0) = true := decide_eq_true c2
  clear c2
  obtain rfl := Option.some.inj H
  go_enter Tryz.func61, Tryz.ntmps61
  go_wp2
  go_ret
  exact ⟨qpa0_, by repeat (first | exact Drawn0.refl _ | apply Drawn0.step)⟩
 rw [if_neg c2] at H
 have c2b0 : decide (1 ≤ a0) = false := decide_eq_false c2
 clear c2
 obtain rfl := Option.some.inj H
 go_enter Tryz.func61, Tryz.ntmps61
 go_wp2
 go_ret
 exact ⟨qpa0_, by repeat (first | exact Drawn0.refl _ | apply Drawn0.step)⟩
end Go.Proofs.YtnjcpoojgmpmeaaGreatDoor.PX
namespace Go.Proofs.YtnjcpoojgmpmeaaGreatDoor.Plug
open RowKit YtnjcpoojgmpmeaaGreatDoor YtnjcpoojgmpmeaaGreatDoor.PX YtnjcpoojgmpmeaaGreatDoor.Utf YtnjcpoojgmpmeaaGreatDoorW.PrintWords YtnjcpoojgmpmeaaGreatDoorW.PrintLast YtnjcpoojgmpmeaaGreatDoorW.PrintMore
def rgtsO (f : S29 → Int → Option (Bool × Int)) (m : Bool) : Nat → List S29 → Int → Option (Bool × Int)
 | _, [], left => some (true, left)
 | i, k :: r, left =>
  if m = true ∧ i % 2 = 0 ∧ (flow_isScalar.f k.f0 = some false ∨ k.f2.toList ≠ []) then some (false, left)
  else match f k left with
  | none => none
  | some (b, l) => if b = false then some (false, l) else rgtsO f m (i + 1) r l
def rgtO : Nat → S29 → Int → Int → Option (Bool × Int)
 | 0, _, _, _ => none
 | K + 1, t, deep, left =>
  match flow_isText.f 9 t.f0 t.f1, flow_Name.f t.f2 with
  | some tx, some nm =>
   if 1099511627776 < t.f3.length then none else if left - 1 < 0 then some (false, left - 1) else if t.f0 < 1 then some (false, left - 1) else if 7 < t.f0 then some (false, left - 1) else if tx = false then some (false, left - 1)
   else if (t.f2.toList ≠ [] ∨ t.f0 = 7) ∧ nm = false then some (false, left - 1)
   else if t.f0 ≠ 5 ∧ t.f0 ≠ 6 then some (decide ((t.f3.length : Int) = 0), left - 1)
   else if deep = 64 ∨ (t.f0 = 6 ∧ t.f3.length % 2 ≠ 0) then some (false, left - 1)
   else rgtsO (fun k => rgtO K k (deep + 1)) (decide (t.f0 = 6)) 0 t.f3 (left - 1)
  | _, _ => none
theorem rdT_nth (xs : List S29) (i : Nat) (h : i < xs.length) : rd_T29 xs (i : Int) = xs[i] := by
 unfold rd_T29
 rw [Int.toNat_natCast, List.getD_eq_getElem?_getD, List.getElem?_eq_getElem h]; rfl
theorem rgts_left {f : S29 → Int → Option (Bool × Int)} (hf : ∀ k left b l, f k left = some (b, l) → l ≤ left ∧ (b = true → 0 ≤ l)) (m : Bool) :
  ∀ (r : List S29) (i : Nat) (left : Int) (b : Bool) (l : Int), rgtsO f m i r left = some (b, l) → 0 ≤ left → l ≤ left ∧ (b = true → 0 ≤ l)
 | [], i, left, b, l, h, h0 => by
  rw [rgtsO] at h
  obtain ⟨e1, e2⟩ := Prod.mk.inj (Option.some.inj h)
  exact ⟨by omega, fun _ => by omega⟩
 | k :: r, i, left, b, l, h, h0 => by
  rw [rgtsO] at h
  split at h
  ·
   obtain ⟨e1, e2⟩ := Prod.mk.inj (Option.some.inj h)
   exact ⟨by omega, fun e => by rw [← e1] at e; cases e⟩
  ·
   split at h
   · cases h
   ·
    rename_i b2 l2 hk
    have h1 := hf k left b2 l2 hk
    split at h
    ·
     obtain ⟨e1, e2⟩ := Prod.mk.inj (Option.some.inj h)
     exact ⟨by omega, fun e => by rw [← e1] at e; cases e⟩
    ·
     rename_i hb
     have h2 := h1.2 (by cases b2 <;> simp_all)
     have h3 := rgts_left hf m r (i + 1) l2 b l h h2
     exact ⟨by omega, h3.2⟩
theorem rgt_left : ∀ (K : Nat) (t : S29) (deep left : Int) (b : Bool) (l : Int), rgtO K t deep left = some (b, l) → l ≤ left ∧ (b = true → 0 ≤ l)
 | 0, t, deep, left, b, l, h => by simp [rgtO] at h
 | K + 1, t, deep, left, b, l, h => by
  rw [rgtO] at h
  split at h
  ·
   split at h
   · cases h
   by_cases c1 : left - 1 < 0
   ·
    rw [if_pos c1] at h
    obtain ⟨e1, e2⟩ := Prod.mk.inj (Option.some.inj h)
    exact ⟨by omega, fun e => by rw [← e1] at e; cases e⟩
   rw [if_neg c1] at h
   repeat' split at h
   all_goals first
    | (obtain ⟨e1, e2⟩ := Prod.mk.inj (Option.some.inj h); exact ⟨by omega, fun _ => by omega⟩)
    | (have h3 := rgts_left (fun k left b l => rgt_left K k (deep + 1) left b l) _ _ _ _ _ _ h (by omega); exact ⟨by omega, h3.2⟩)
  · cases h
structure Fw (w0 W : World) (cb tb : Nat) (kd : Int) (tx an : ByteArray) (v : Value) (left : Int) (Z : World) : Prop where
 cnt : Z.heap[cb]? = some (.cells #[.int .i64 left] 92)
 box : Z.heap[tb]? = some (.cells #[.int .i64 kd, .string tx, .string an, v] 29)
 bel : Below w0.heap.size w0 Z
 kb : KeepBut W Z cb none
 lt : w0.heap.size ≤ cb ∧ cb < W.heap.size ∧ W.heap.size ≤ tb
section
variable {w0 W Z Z' : World} {cb tb : Nat} {kd : Int} {tx an : ByteArray} {v : Value} {left : Int}
theorem Fw.cells (h : Fw w0 W cb tb kd tx an v left Z) : Z.cell? ⟨cb, 0, none⟩ = some (.int .i64 left) ∧ Z.cell? ⟨tb, 0, none⟩ = some (.int .i64 kd) ∧ Z.cell? ⟨tb, 1, none⟩ = some (.string tx) ∧ Z.cell? ⟨tb, 2, none⟩ = some (.string an) ∧ Z.cell? ⟨tb, 3, none⟩ = some v ∧ Z.frozen? ⟨cb, 0, none⟩ = false :=
  ⟨(blk_cell h.cnt 0).trans rfl, (blk_cell h.box 0).trans rfl, (blk_cell h.box 1).trans rfl, (blk_cell h.box 2).trans rfl, (blk_cell h.box 3).trans rfl, blk_frozen h.cnt 0⟩
theorem Fw.dec (h : Fw w0 W cb tb kd tx an v left Z) (x : Int) : Fw w0 W cb tb kd tx an v x (Z.setCell ⟨cb, 0, none⟩ (.int .i64 x)) := by
 obtain ⟨l1, l2, l3⟩ := h.lt
 exact ⟨by simpa using blk_set h.cnt 0 (.int .i64 x), (Below.heap_setCell Z ⟨cb, 0, none⟩ _ tb (by show tb ≠ cb; omega)).trans h.box, h.bel.setCell (p := ⟨cb, 0, none⟩) l1 _, h.kb.set_ 0 _, h.lt⟩
theorem Fw.below (h : Fw w0 W cb tb kd tx an v left Z) (hb : Below Z.heap.size Z Z') : Fw w0 W cb tb kd tx an v left Z' :=
  ⟨(hb.block cb (blk_lt h.cnt)).trans h.cnt, (hb.block tb (blk_lt h.box)).trans h.box, h.bel.trans (hb.mono h.bel.size), h.kb.trans (KeepBut.of_below hb cb none) (.inl rfl), h.lt⟩
theorem Fw.call (h : Fw w0 W cb tb kd tx an v left Z) {x : Int} (hc : Z'.heap[cb]? = some (.cells #[.int .i64 x] 92)) (hb : Below w0.heap.size w0 Z') (hk : KeepBut Z Z' cb none) : Fw w0 W cb tb kd tx an v x Z' :=
  ⟨hc, (hk.2 tb (blk_lt h.box) (by have := h.lt; omega) (by simp)).trans h.box, hb, h.kb.trans hk (.inl rfl), h.lt⟩
end
set_option maxHeartbeats 8000000 in
set_option maxRecDepth 100000 in
theorem right_is (w0 : World) (hG : Glob.G w0) (cb : Nat) (hcb : w0.heap.size ≤ cb) :
  ∀ (K : Nat) (t : S29) (deep left : Int) (b : Bool) (left' : Int) (W : World) (A : Option Addr) (c : Nat), Kd.C k29 w0 A t.f3.length t.f3 → t.f3.length ≤ c → Below w0.heap.size w0 W → W.heap[cb]? = some (.cells #[.int .i64 left] 92) → rgtO K t deep left = some (b, left') → 0 ≤ deep → deep ≤ 64 → 0 ≤ left → left ≤ 4096 →
   Calls Tryz.prog 40 #[.pointer (some ⟨cb, 0, none⟩), .agg #[.int .i64 t.f0, .string t.f1, .string t.f2, .slice A t.f3.length c], .int .i64 deep] W fun e W' => e = .returned (.bool b) ∧ Below w0.heap.size w0 W' ∧ W'.heap[cb]? = some (.cells #[.int .i64 left'] 92) ∧ KeepBut W W' cb none := by
 intro K
 induction K with
 | zero => intro t deep left b left' W A c _ _ _ _ h; simp [rgtO] at h
 | succ K ih =>
  intro t deep left b left' W A c hr hc hb hcnt h hd0 hd1 hl0 hl1
  obtain ⟨kd, tt, an, kids⟩ := t
  rw [rgtO] at h
  dsimp only at h hr hc ⊢
  have HR := Lib.hid hr
  have HB := Lib.hid hb
  have HC := Lib.hid hcnt
  have IH := Lib.hid ih
  clear hr hb hcnt ih
  cases htx : flow_isText.f 9 kd tt with
  | none => rw [htx] at h; cases h
  | some tx =>
   cases hnm : flow_Name.f an with
   | none => rw [htx, hnm] at h; cases h
   | some nm =>
    rw [htx, hnm] at h
    dsimp only at h
    by_cases hsz0 : 1099511627776 < kids.length
    case pos => rw [if_pos hsz0] at h; cases h
    rw [if_neg hsz0] at h
    have hsz : kids.length ≤ 1099511627776 := by omega
    clear hsz0
    have HT := Lib.hid htx
    have HN := Lib.hid hnm
    clear htx hnm
    have hw1 : wrap64 (left - 1) = left - 1 := by unfold wrap64; omega
    by_cases c1 : left - 1 < 0
    ·
     rw [if_pos c1] at h
     obtain ⟨e1, e2⟩ := Prod.mk.inj (Option.some.inj h)
     have HE := Lib.hid e1
     subst e2
     have q1 : decide (left - 1 < 0) = true := decide_eq_true c1
     clear h e1 c1
     go_enter Tryz.func40, Tryz.ntmps40
     go_wp2_with (first | ((with_reducible refine gate_dst (N := 4) rfl ?_); refine box_event ?hg (N := 4) ?hd (cs := #[.int .i64 kd, .string tt, .string an, .slice A kids.length c]) (t := 29) ?hr ?_; (case hd => rfl); (case hg => rfl); (case hr => first | (go_simp; done) | (go_simp; rfl)); intro tb ht w1 htb hb1; have HX1 := Lib.hid (Fw.mk (w0 := w0) (W := W) ((hb1.block cb (blk_lt HC.out)).trans HC.out) htb (HB.out.trans (hb1.mono HB.out.size)) (KeepBut.of_below hb1 cb none) ⟨hcb, blk_lt HC.out, by rw [ht]; exact Nat.le_refl _⟩); have HX2 := Lib.hid (HX1.out.dec (left - 1)); clear htb hb1 ht; obtain ⟨x0, x1, x2, x3, x4, x5⟩ := HX1.out.cells; obtain ⟨y0, y1, y2, y3, y4, y5⟩ := HX2.out.cells))
     go_ret
     exact ⟨by rw [← HE.out]; first | done | rfl, HX2.out.bel, HX2.out.cnt, HX2.out.kb⟩
    rw [if_neg c1] at h
    have q1 : decide (left - 1 < 0) = false := decide_eq_false c1
    by_cases c2 : kd < 1
    ·
     rw [if_pos c2] at h
     obtain ⟨e1, e2⟩ := Prod.mk.inj (Option.some.inj h)
     have HE := Lib.hid e1
     subst e2
     have q2 : decide (kd < 1) = true := decide_eq_true c2
     clear h e1 c1 c2
     go_enter Tryz.func40, Tryz.ntmps40
     go_wp2_with (first | ((with_reducible refine gate_dst (N := 4) rfl ?_); refine box_event ?hg (N := 4) ?hd (cs := #[.int .i64 kd, .string tt, .string an, .slice A kids.length c]) (t := 29) ?hr ?_; (case hd => rfl); (case hg => rfl); (case hr => first | (go_simp; done) | (go_simp; rfl)); intro tb ht w1 htb hb1; have HX1 := Lib.hid (Fw.mk (w0 := w0) (W := W) ((hb1.block cb (blk_lt HC.out)).trans HC.out) htb (HB.out.trans (hb1.mono HB.out.size)) (KeepBut.of_below hb1 cb none) ⟨hcb, blk_lt HC.out, by rw [ht]; exact Nat.le_refl _⟩); have HX2 := Lib.hid (HX1.out.dec (left - 1)); clear htb hb1 ht; obtain ⟨x0, x1, x2, x3, x4, x5⟩ := HX1.out.cells; obtain ⟨y0, y1, y2, y3, y4, y5⟩ := HX2.out.cells))
     go_ret
     exact ⟨by rw [← HE.out]; first | done | rfl, HX2.out.bel, HX2.out.cnt, HX2.out.kb⟩
    rw [if_neg c2] at h
    have q2 : decide (kd < 1) = false := decide_eq_false c2
    by_cases c3 : 7 < kd
    ·
     rw [if_pos c3] at h
     obtain ⟨e1, e2⟩ := Prod.mk.inj (Option.some.inj h)
     have HE := Lib.hid e1
     subst e2
     have q3 : decide (kd > 7) = true := decide_eq_true c3
     clear h e1 c1 c2 c3
     go_enter Tryz.func40, Tryz.ntmps40
     go_wp2_with (first | ((with_reducible refine gate_dst (N := 4) rfl ?_); refine box_event ?hg (N := 4) ?hd (cs := #[.int .i64 kd, .string tt, .string an, .slice A kids.length c]) (t := 29) ?hr ?_; (case hd => rfl); (case hg => rfl); (case hr => first | (go_simp; done) | (go_simp; rfl)); intro tb ht w1 htb hb1; have HX1 := Lib.hid (Fw.mk (w0 := w0) (W := W) ((hb1.block cb (blk_lt HC.out)).trans HC.out) htb (HB.out.trans (hb1.mono HB.out.size)) (KeepBut.of_below hb1 cb none) ⟨hcb, blk_lt HC.out, by rw [ht]; exact Nat.le_refl _⟩); have HX2 := Lib.hid (HX1.out.dec (left - 1)); clear htb hb1 ht; obtain ⟨x0, x1, x2, x3, x4, x5⟩ := HX1.out.cells; obtain ⟨y0, y1, y2, y3, y4, y5⟩ := HX2.out.cells))
     go_ret
     exact ⟨by rw [← HE.out]; first | done | rfl, HX2.out.bel, HX2.out.cnt, HX2.out.kb⟩
    rw [if_neg c3] at h
    have q3 : decide (kd > 7) = false := decide_eq_false c3
    cases tx with
    | false =>
     rw [if_pos rfl] at h
     obtain ⟨e1, e2⟩ := Prod.mk.inj (Option.some.inj h)
     have HE := Lib.hid e1
     subst e2
     clear h e1 c1 c2 c3
     go_enter Tryz.func40, Tryz.ntmps40
     go_wp2_with (first | ((with_reducible refine gate_dst (N := 4) rfl ?_); refine box_event ?hg (N := 4) ?hd (cs := #[.int .i64 kd, .string tt, .string an, .slice A kids.length c]) (t := 29) ?hr ?_; (case hd => rfl); (case hg => rfl); (case hr => first | (go_simp; done) | (go_simp; rfl)); intro tb ht w1 htb hb1; have HX1 := Lib.hid (Fw.mk (w0 := w0) (W := W) ((hb1.block cb (blk_lt HC.out)).trans HC.out) htb (HB.out.trans (hb1.mono HB.out.size)) (KeepBut.of_below hb1 cb none) ⟨hcb, blk_lt HC.out, by rw [ht]; exact Nat.le_refl _⟩); have HX2 := Lib.hid (HX1.out.dec (left - 1)); clear htb hb1 ht; obtain ⟨x0, x1, x2, x3, x4, x5⟩ := HX1.out.cells; obtain ⟨y0, y1, y2, y3, y4, y5⟩ := HX2.out.cells) | (go_at_call 59; refine (flow_isText.calls _ _ _ _ _ (hG.below HX2.out.bel) HT.out).mono ?_; rintro e w3 ⟨rfl, hb3⟩; have HX3 := Lib.hid (HX2.out.below hb3); clear hb3 x0 x1 x2 x3 x4 x5 y0 y1 y2 y3 y4 y5; obtain ⟨y0, y1, y2, y3, y4, y5⟩ := HX3.out.cells))
     go_ret
     exact ⟨by rw [← HE.out]; first | done | rfl, HX3.out.bel, HX3.out.cnt, HX3.out.kb⟩
    | true =>
     rw [if_neg (by decide)] at h
     clear c1 c2 c3
     have hna : an.toList ≠ [] ∨ (an.toList = [] ∧ kd = 7) ∨ (an.toList = [] ∧ kd ≠ 7) := by
      by_cases a : an.toList = []
      rotate_left
      · exact .inl a
      by_cases e : kd = 7
      · exact .inr (.inl ⟨a, e⟩)
      exact .inr (.inr ⟨a, e⟩)
     by_cases c4 : (an.toList ≠ [] ∨ kd = 7) ∧ nm = false
     ·
      rw [if_pos c4] at h
      obtain ⟨e1, e2⟩ := Prod.mk.inj (Option.some.inj h)
      have HE := Lib.hid e1
      subst e2
      have hnf := c4.2
      subst hnf
      rcases hna with a4 | ⟨a4, a5⟩ | ⟨a4, a5⟩
      case' inr.inr => exact absurd c4.1 (fun z => z.elim (fun y => y a4) a5)
      case' inl => have p4 : (an.toList = []) = False := eq_false a4; have q4 : (an.toList != []) = true := bne_iff_ne.2 a4; clear a4
      case' inr.inl => have p4 : (an.toList = []) = True := eq_true a4; have p5 : (kd = 7) = True := eq_true a5; have q4 : (an.toList != []) = false := by rw [a4]; rfl
      case' inr.inl => have q5 : (kd == 7) = true := beq_iff_eq.2 a5; clear a4 a5
      all_goals
       clear h e1 c4
       go_enter Tryz.func40, Tryz.ntmps40
       go_wp2_with (first | ((with_reducible refine gate_dst (N := 4) rfl ?_); refine box_event ?hg (N := 4) ?hd (cs := #[.int .i64 kd, .string tt, .string an, .slice A kids.length c]) (t := 29) ?hr ?_; (case hd => rfl); (case hg => rfl); (case hr => first | (go_simp; done) | (go_simp; rfl)); intro tb ht w1 htb hb1; have HX1 := Lib.hid (Fw.mk (w0 := w0) (W := W) ((hb1.block cb (blk_lt HC.out)).trans HC.out) htb (HB.out.trans (hb1.mono HB.out.size)) (KeepBut.of_below hb1 cb none) ⟨hcb, blk_lt HC.out, by rw [ht]; exact Nat.le_refl _⟩); have HX2 := Lib.hid (HX1.out.dec (left - 1)); clear htb hb1 ht; obtain ⟨x0, x1, x2, x3, x4, x5⟩ := HX1.out.cells; obtain ⟨y0, y1, y2, y3, y4, y5⟩ := HX2.out.cells) | (go_at_call 59; refine (flow_isText.calls _ _ _ _ _ (hG.below HX2.out.bel) HT.out).mono ?_; rintro e w3 ⟨rfl, hb3⟩; have HX3 := Lib.hid (HX2.out.below hb3); clear hb3 x0 x1 x2 x3 x4 x5 y0 y1 y2 y3 y4 y5; obtain ⟨y0, y1, y2, y3, y4, y5⟩ := HX3.out.cells) | (go_at_call 60; refine (flow_Name.calls _ _ _ (hG.below HX3.out.bel) HN.out).mono ?_; rintro e w4 ⟨rfl, hb4⟩; have HX4 := Lib.hid (HX3.out.below hb4); clear hb4 y0 y1 y2 y3 y4 y5; obtain ⟨y0, y1, y2, y3, y4, y5⟩ := HX4.out.cells))
       go_ret
       exact ⟨by rw [← HE.out]; first | done | rfl, HX4.out.bel, HX4.out.cnt, HX4.out.kb⟩
     rw [if_neg c4] at h
     have hp : (an.toList ≠ [] ∧ nm = true) ∨ (an.toList = [] ∧ kd ≠ 7) := by
      rcases hna with a4 | ⟨a4, a5⟩ | ⟨a4, a5⟩
      · exact .inl ⟨a4, by cases nm with | true => rfl | false => exact absurd ⟨.inl a4, rfl⟩ c4⟩
      ·
       refine absurd ⟨.inr a5, ?_⟩ c4
       have h2 := HN.out
       unfold flow_Name.f at h2
       rw [if_pos a4] at h2
       exact (Option.some.inj h2).symm
      · exact .inr ⟨a4, a5⟩
     clear hna c4
     by_cases c5 : kd ≠ 5 ∧ kd ≠ 6
     ·
      rw [if_pos c5] at h
      obtain ⟨e1, e2⟩ := Prod.mk.inj (Option.some.inj h)
      have HE := Lib.hid e1
      subst e2
      have q8 : (kd != 5) = true := bne_iff_ne.2 c5.1
      have q9 : (kd != 6) = true := bne_iff_ne.2 c5.2
      have p8 : (kd = 5) = False := eq_false c5.1
      have p9 : (kd = 6) = False := eq_false c5.2
      rcases hp with ⟨a4, a5⟩ | ⟨a4, a5⟩
      case' inl => subst a5; have p4 : (an.toList = []) = False := eq_false a4; have q4 : (an.toList != []) = true := bne_iff_ne.2 a4; clear a4
      case' inr => have p4 : (an.toList = []) = True := eq_true a4; have p5 : (kd = 7) = False := eq_false a5; have q4 : (an.toList != []) = false := by rw [a4]; rfl
      case' inr => have q5 : (kd == 7) = false := beq_eq_false_iff_ne.2 a5; clear a4 a5
      case inl =>
       clear h e1 c5
       go_enter Tryz.func40, Tryz.ntmps40
       go_wp2_with (first | ((with_reducible refine gate_dst (N := 4) rfl ?_); refine box_event ?hg (N := 4) ?hd (cs := #[.int .i64 kd, .string tt, .string an, .slice A kids.length c]) (t := 29) ?hr ?_; (case hd => rfl); (case hg => rfl); (case hr => first | (go_simp; done) | (go_simp; rfl)); intro tb ht w1 htb hb1; have HX1 := Lib.hid (Fw.mk (w0 := w0) (W := W) ((hb1.block cb (blk_lt HC.out)).trans HC.out) htb (HB.out.trans (hb1.mono HB.out.size)) (KeepBut.of_below hb1 cb none) ⟨hcb, blk_lt HC.out, by rw [ht]; exact Nat.le_refl _⟩); have HX2 := Lib.hid (HX1.out.dec (left - 1)); clear htb hb1 ht; obtain ⟨x0, x1, x2, x3, x4, x5⟩ := HX1.out.cells; obtain ⟨y0, y1, y2, y3, y4, y5⟩ := HX2.out.cells) | (go_at_call 59; refine (flow_isText.calls _ _ _ _ _ (hG.below HX2.out.bel) HT.out).mono ?_; rintro e w3 ⟨rfl, hb3⟩; have HX3 := Lib.hid (HX2.out.below hb3); clear hb3 x0 x1 x2 x3 x4 x5 y0 y1 y2 y3 y4 y5; obtain ⟨y0, y1, y2, y3, y4, y5⟩ := HX3.out.cells) | (go_at_call 60; refine (flow_Name.calls _ _ _ (hG.below HX3.out.bel) HN.out).mono ?_; rintro e w4 ⟨rfl, hb4⟩; have HX4 := Lib.hid (HX3.out.below hb4); clear hb4 y0 y1 y2 y3 y4 y5; obtain ⟨y0, y1, y2, y3, y4, y5⟩ := HX4.out.cells))
       go_ret
       exact ⟨by rw [← HE.out]; first | done | rfl, HX4.out.bel, HX4.out.cnt, HX4.out.kb⟩
      case inr =>
       clear h e1 c5
       go_enter Tryz.func40, Tryz.ntmps40
       go_wp2_with (first | ((with_reducible refine gate_dst (N := 4) rfl ?_); refine box_event ?hg (N := 4) ?hd (cs := #[.int .i64 kd, .string tt, .string an, .slice A kids.length c]) (t := 29) ?hr ?_; (case hd => rfl); (case hg => rfl); (case hr => first | (go_simp; done) | (go_simp; rfl)); intro tb ht w1 htb hb1; have HX1 := Lib.hid (Fw.mk (w0 := w0) (W := W) ((hb1.block cb (blk_lt HC.out)).trans HC.out) htb (HB.out.trans (hb1.mono HB.out.size)) (KeepBut.of_below hb1 cb none) ⟨hcb, blk_lt HC.out, by rw [ht]; exact Nat.le_refl _⟩); have HX2 := Lib.hid (HX1.out.dec (left - 1)); clear htb hb1 ht; obtain ⟨x0, x1, x2, x3, x4, x5⟩ := HX1.out.cells; obtain ⟨y0, y1, y2, y3, y4, y5⟩ := HX2.out.cells) | (go_at_call 59; refine (flow_isText.calls _ _ _ _ _ (hG.below HX2.out.bel) HT.out).mono ?_; rintro e w3 ⟨rfl, hb3⟩; have HX3 := Lib.hid (HX2.out.below hb3); clear hb3 x0 x1 x2 x3 x4 x5 y0 y1 y2 y3 y4 y5; obtain ⟨y0, y1, y2, y3, y4, y5⟩ := HX3.out.cells) | (go_at_call 60; refine (flow_Name.calls _ _ _ (hG.below HX3.out.bel) HN.out).mono ?_; rintro e w4 ⟨rfl, hb4⟩; have HX4 := Lib.hid (HX3.out.below hb4); clear hb4 y0 y1 y2 y3 y4 y5; obtain ⟨y0, y1, y2, y3, y4, y5⟩ := HX4.out.cells))
       go_ret
       exact ⟨by rw [← HE.out]; first | done | rfl, HX3.out.bel, HX3.out.cnt, HX3.out.kb⟩
     rw [if_neg c5] at h
     have hk : kd = 5 ∨ kd = 6 := by omega
     clear c5
     by_cases c6 : deep = 64 ∨ (kd = 6 ∧ kids.length % 2 ≠ 0)
     ·
      rw [if_pos c6] at h
      obtain ⟨e1, e2⟩ := Prod.mk.inj (Option.some.inj h)
      have HE := Lib.hid e1
      subst e2
      clear h e1
      have hd : deep = 64 ∨ (deep ≠ 64 ∧ kd = 6 ∧ kids.length % 2 ≠ 0) := by
       by_cases e : deep = 64
       · exact .inl e
       exact .inr ⟨e, c6.resolve_left e⟩
      clear c6
      rcases hk with e5 | e5
      ·
       have hd64 := hd.resolve_right (fun e => by have := e.2.1; omega)
       subst hd64
       have q5 : (kd == 7) = false := by rw [e5]; rfl
       have p5 : (kd = 7) = False := eq_false (by rw [e5]; decide)
       have q8 : (kd != 5) = false := by rw [e5]; rfl
       have q9 : (kd != 6) = true := by rw [e5]; rfl
       have q10 : (kd == 6) = false := by rw [e5]; rfl
       have p8 : (kd = 5) = True := eq_true e5
       have p9 : (kd = 6) = False := eq_false (by rw [e5]; decide)
       clear hd
       rcases hp with ⟨a4, a5⟩ | ⟨a4, a5⟩
       ·
        subst a5
        have p4 : (an.toList = []) = False := eq_false a4
        have q4 : (an.toList != []) = true := bne_iff_ne.2 a4
        clear a4 e5
        go_enter Tryz.func40, Tryz.ntmps40
        go_wp2_with (first | ((with_reducible refine gate_dst (N := 4) rfl ?_); refine box_event ?hg (N := 4) ?hd (cs := #[.int .i64 kd, .string tt, .string an, .slice A kids.length c]) (t := 29) ?hr ?_; (case hd => rfl); (case hg => rfl); (case hr => first | (go_simp; done) | (go_simp; rfl)); intro tb ht w1 htb hb1; have HX1 := Lib.hid (Fw.mk (w0 := w0) (W := W) ((hb1.block cb (blk_lt HC.out)).trans HC.out) htb (HB.out.trans (hb1.mono HB.out.size)) (KeepBut.of_below hb1 cb none) ⟨hcb, blk_lt HC.out, by rw [ht]; exact Nat.le_refl _⟩); have HX2 := Lib.hid (HX1.out.dec (left - 1)); clear htb hb1 ht; obtain ⟨x0, x1, x2, x3, x4, x5⟩ := HX1.out.cells; obtain ⟨y0, y1, y2, y3, y4, y5⟩ := HX2.out.cells) | (go_at_call 59; refine (flow_isText.calls _ _ _ _ _ (hG.below HX2.out.bel) HT.out).mono ?_; rintro e w3 ⟨rfl, hb3⟩; have HX3 := Lib.hid (HX2.out.below hb3); clear hb3 x0 x1 x2 x3 x4 x5 y0 y1 y2 y3 y4 y5; obtain ⟨y0, y1, y2, y3, y4, y5⟩ := HX3.out.cells) | (go_at_call 60; refine (flow_Name.calls _ _ _ (hG.below HX3.out.bel) HN.out).mono ?_; rintro e w4 ⟨rfl, hb4⟩; have HX4 := Lib.hid (HX3.out.below hb4); clear hb4 y0 y1 y2 y3 y4 y5; obtain ⟨y0, y1, y2, y3, y4, y5⟩ := HX4.out.cells))
        go_ret
        exact ⟨by rw [← HE.out]; first | done | rfl, HX4.out.bel, HX4.out.cnt, HX4.out.kb⟩
       ·
        have p4 : (an.toList = []) = True := eq_true a4
        have q4 : (an.toList != []) = false := by rw [a4]; rfl
        clear a4 a5 e5
        go_enter Tryz.func40, Tryz.ntmps40
        go_wp2_with (first | ((with_reducible refine gate_dst (N := 4) rfl ?_); refine box_event ?hg (N := 4) ?hd (cs := #[.int .i64 kd, .string tt, .string an, .slice A kids.length c]) (t := 29) ?hr ?_; (case hd => rfl); (case hg => rfl); (case hr => first | (go_simp; done) | (go_simp; rfl)); intro tb ht w1 htb hb1; have HX1 := Lib.hid (Fw.mk (w0 := w0) (W := W) ((hb1.block cb (blk_lt HC.out)).trans HC.out) htb (HB.out.trans (hb1.mono HB.out.size)) (KeepBut.of_below hb1 cb none) ⟨hcb, blk_lt HC.out, by rw [ht]; exact Nat.le_refl _⟩); have HX2 := Lib.hid (HX1.out.dec (left - 1)); clear htb hb1 ht; obtain ⟨x0, x1, x2, x3, x4, x5⟩ := HX1.out.cells; obtain ⟨y0, y1, y2, y3, y4, y5⟩ := HX2.out.cells) | (go_at_call 59; refine (flow_isText.calls _ _ _ _ _ (hG.below HX2.out.bel) HT.out).mono ?_; rintro e w3 ⟨rfl, hb3⟩; have HX3 := Lib.hid (HX2.out.below hb3); clear hb3 x0 x1 x2 x3 x4 x5 y0 y1 y2 y3 y4 y5; obtain ⟨y0, y1, y2, y3, y4, y5⟩ := HX3.out.cells) | (go_at_call 60; refine (flow_Name.calls _ _ _ (hG.below HX3.out.bel) HN.out).mono ?_; rintro e w4 ⟨rfl, hb4⟩; have HX4 := Lib.hid (HX3.out.below hb4); clear hb4 y0 y1 y2 y3 y4 y5; obtain ⟨y0, y1, y2, y3, y4, y5⟩ := HX4.out.cells))
        go_ret
        exact ⟨by rw [← HE.out]; first | done | rfl, HX3.out.bel, HX3.out.cnt, HX3.out.kb⟩
      ·
       have q5 : (kd == 7) = false := by rw [e5]; rfl
       have p5 : (kd = 7) = False := eq_false (by rw [e5]; decide)
       have q8 : (kd != 5) = true := by rw [e5]; rfl
       have q9 : (kd != 6) = false := by rw [e5]; rfl
       have q10 : (kd == 6) = true := by rw [e5]; rfl
       have p8 : (kd = 5) = False := eq_false (by rw [e5]; decide)
       have p9 : (kd = 6) = True := eq_true e5
       rcases hd with hd | ⟨hd, e6, ho⟩
       case' inl => subst hd
       case' inr => have q6 : (deep == 64) = false := beq_eq_false_iff_ne.2 hd; have p6 : (deep = 64) = False := eq_false hd; have q7 : (kids.length : Int).tmod 2 = 1 := by { rw [Int.tmod_eq_emod_of_nonneg (by omega)]; omega }
       case' inr => clear hd ho e6
       all_goals
        rcases hp with ⟨a4, a5⟩ | ⟨a4, a5⟩
        ·
         subst a5
         have p4 : (an.toList = []) = False := eq_false a4
         have q4 : (an.toList != []) = true := bne_iff_ne.2 a4
         clear a4 e5
         go_enter Tryz.func40, Tryz.ntmps40
         go_wp2_with (first | ((with_reducible refine gate_dst (N := 4) rfl ?_); refine box_event ?hg (N := 4) ?hd (cs := #[.int .i64 kd, .string tt, .string an, .slice A kids.length c]) (t := 29) ?hr ?_; (case hd => rfl); (case hg => rfl); (case hr => first | (go_simp; done) | (go_simp; rfl)); intro tb ht w1 htb hb1; have HX1 := Lib.hid (Fw.mk (w0 := w0) (W := W) ((hb1.block cb (blk_lt HC.out)).trans HC.out) htb (HB.out.trans (hb1.mono HB.out.size)) (KeepBut.of_below hb1 cb none) ⟨hcb, blk_lt HC.out, by rw [ht]; exact Nat.le_refl _⟩); have HX2 := Lib.hid (HX1.out.dec (left - 1)); clear htb hb1 ht; obtain ⟨x0, x1, x2, x3, x4, x5⟩ := HX1.out.cells; obtain ⟨y0, y1, y2, y3, y4, y5⟩ := HX2.out.cells) | (go_at_call 59; refine (flow_isText.calls _ _ _ _ _ (hG.below HX2.out.bel) HT.out).mono ?_; rintro e w3 ⟨rfl, hb3⟩; have HX3 := Lib.hid (HX2.out.below hb3); clear hb3 x0 x1 x2 x3 x4 x5 y0 y1 y2 y3 y4 y5; obtain ⟨y0, y1, y2, y3, y4, y5⟩ := HX3.out.cells) | (go_at_call 60; refine (flow_Name.calls _ _ _ (hG.below HX3.out.bel) HN.out).mono ?_; rintro e w4 ⟨rfl, hb4⟩; have HX4 := Lib.hid (HX3.out.below hb4); clear hb4 y0 y1 y2 y3 y4 y5; obtain ⟨y0, y1, y2, y3, y4, y5⟩ := HX4.out.cells))
         go_ret
         exact ⟨by rw [← HE.out]; first | done | rfl, HX4.out.bel, HX4.out.cnt, HX4.out.kb⟩
        ·
         have p4 : (an.toList = []) = True := eq_true a4
         have q4 : (an.toList != []) = false := by rw [a4]; rfl
         clear a4 a5 e5
         go_enter Tryz.func40, Tryz.ntmps40
         go_wp2_with (first | ((with_reducible refine gate_dst (N := 4) rfl ?_); refine box_event ?hg (N := 4) ?hd (cs := #[.int .i64 kd, .string tt, .string an, .slice A kids.length c]) (t := 29) ?hr ?_; (case hd => rfl); (case hg => rfl); (case hr => first | (go_simp; done) | (go_simp; rfl)); intro tb ht w1 htb hb1; have HX1 := Lib.hid (Fw.mk (w0 := w0) (W := W) ((hb1.block cb (blk_lt HC.out)).trans HC.out) htb (HB.out.trans (hb1.mono HB.out.size)) (KeepBut.of_below hb1 cb none) ⟨hcb, blk_lt HC.out, by rw [ht]; exact Nat.le_refl _⟩); have HX2 := Lib.hid (HX1.out.dec (left - 1)); clear htb hb1 ht; obtain ⟨x0, x1, x2, x3, x4, x5⟩ := HX1.out.cells; obtain ⟨y0, y1, y2, y3, y4, y5⟩ := HX2.out.cells) | (go_at_call 59; refine (flow_isText.calls _ _ _ _ _ (hG.below HX2.out.bel) HT.out).mono ?_; rintro e w3 ⟨rfl, hb3⟩; have HX3 := Lib.hid (HX2.out.below hb3); clear hb3 x0 x1 x2 x3 x4 x5 y0 y1 y2 y3 y4 y5; obtain ⟨y0, y1, y2, y3, y4, y5⟩ := HX3.out.cells) | (go_at_call 60; refine (flow_Name.calls _ _ _ (hG.below HX3.out.bel) HN.out).mono ?_; rintro e w4 ⟨rfl, hb4⟩; have HX4 := Lib.hid (HX3.out.below hb4); clear hb4 y0 y1 y2 y3 y4 y5; obtain ⟨y0, y1, y2, y3, y4, y5⟩ := HX4.out.cells))
         go_ret
         exact ⟨by rw [← HE.out]; first | done | rfl, HX3.out.bel, HX3.out.cnt, HX3.out.kb⟩
     rw [if_neg c6] at h
     have hd : deep ≠ 64 := fun e => c6 (.inl e)
     have he : kd = 6 → kids.length % 2 = 0 := fun e => Decidable.byContradiction fun z => c6 (.inr ⟨e, z⟩)
     have q6 : (deep == 64) = false := beq_eq_false_iff_ne.2 hd
     have p6 : (deep = 64) = False := eq_false hd
     have HS := Lib.hid h
     clear h c6
     obtain ⟨M, hM0⟩ : ∃ M, decide (kd = 6) = M := ⟨_, rfl⟩
     rw [hM0] at HS
     have q10 : (kd == 6) = M := by rw [← hM0]; by_cases e : kd = 6 <;> simp [e]
     have q5 : (kd == 7) = false := beq_eq_false_iff_ne.2 (by omega)
     have p5 : (kd = 7) = False := eq_false (by omega)
     have hwd : wrap64 (deep + 1) = deep + 1 := by unfold wrap64; omega
     have hk2 : ((kd != 5) = false ∧ M = false ∧ (kd = 6) = False ∧ (kd != 6) = true) ∨ ((kd != 5) = true ∧ M = true ∧ (kd = 5) = False ∧ (kd != 6) = false ∧ (kids.length : Int).tmod 2 = 0) := by
      rcases hk with e | e
      · exact .inl ⟨by rw [e]; rfl, by rw [← hM0, e]; rfl, eq_false (by omega), by rw [e]; rfl⟩
      · exact .inr ⟨by rw [e]; rfl, by rw [← hM0, e]; rfl, eq_false (by omega), by rw [e]; rfl, by { rw [Int.tmod_eq_emod_of_nonneg (by omega)]; have := he e; omega }⟩
     have hd64 : deep + 1 ≤ 64 := by omega
     clear hk hM0 he hd
     rcases hk2 with ⟨q8, eM, p8, q9⟩ | ⟨q8, eM, p8, q9, q7⟩
     ·
      subst eM
      rcases hp with ⟨a4, a5⟩ | ⟨a4, a5⟩
      case' inl => subst a5; have p4 : (an.toList = []) = False := eq_false a4; have q4 : (an.toList != []) = true := bne_iff_ne.2 a4; clear a4
      case' inr => have p4 : (an.toList = []) = True := eq_true a4; have q4 : (an.toList != []) = false := by rw [a4]; rfl
      case' inr => clear a4 a5
      all_goals
       go_enter Tryz.func40, Tryz.ntmps40
       go_wp2_with (first | ((with_reducible refine gate_dst (N := 4) rfl ?_); refine box_event ?hg (N := 4) ?hd (cs := #[.int .i64 kd, .string tt, .string an, .slice A kids.length c]) (t := 29) ?hr ?_; (case hd => rfl); (case hg => rfl); (case hr => first | (go_simp; done) | (go_simp; rfl)); intro tb ht w1 htb hb1; have HX1 := Lib.hid (Fw.mk (w0 := w0) (W := W) ((hb1.block cb (blk_lt HC.out)).trans HC.out) htb (HB.out.trans (hb1.mono HB.out.size)) (KeepBut.of_below hb1 cb none) ⟨hcb, blk_lt HC.out, by rw [ht]; exact Nat.le_refl _⟩); have HX2 := Lib.hid (HX1.out.dec (left - 1)); clear htb hb1 ht; obtain ⟨x0, x1, x2, x3, x4, x5⟩ := HX1.out.cells; obtain ⟨y0, y1, y2, y3, y4, y5⟩ := HX2.out.cells) | (go_at_call 59; refine (flow_isText.calls _ _ _ _ _ (hG.below HX2.out.bel) HT.out).mono ?_; rintro e w3 ⟨rfl, hb3⟩; have HX3 := Lib.hid (HX2.out.below hb3); clear hb3 x0 x1 x2 x3 x4 x5 y0 y1 y2 y3 y4 y5; obtain ⟨y0, y1, y2, y3, y4, y5⟩ := HX3.out.cells) | (go_at_call 60; refine (flow_Name.calls _ _ _ (hG.below HX3.out.bel) HN.out).mono ?_; rintro e w4 ⟨rfl, hb4⟩; have HX4 := Lib.hid (HX3.out.below hb4); clear hb4 y0 y1 y2 y3 y4 y5; obtain ⟨y0, y1, y2, y3, y4, y5⟩ := HX4.out.cells))
       first | have HX := HX4 | have HX := HX3
       clear y0 y1 y2 y3 y4 y5 HX1 HX2 HT HN HC HB
       go_loopw [83] (fun v wr => ∃ (j : Nat) (lf : Int), v = .int .i64 j ∧ j ≤ kids.length ∧ 0 ≤ lf ∧ lf ≤ 4096 ∧ Hid (rgtsO (fun k => rgtO K k (deep + 1)) false j (kids.drop j) lf = some (b, left')) ∧ Hid (Fw w0 W cb tb kd tt an (.slice A kids.length c) lf wr)) (fun v _ => kids.length - (intOf v).toNat)
       case atStart => exact ⟨0, _, rfl, by omega, by have := of_decide_eq_false q1; omega, by omega, HS, HX⟩
       case round =>
        clear HX HS
        obtain ⟨j, lf, rfl, hj, hl2, hl3, HSR, HXR⟩ := hrel
        obtain ⟨x0, x1, x2, x3, x4, x5⟩ := HXR.out.cells
        by_cases hlj : j < kids.length
        rotate_left
        ·
         have hc1 : decide ((j : Int) < (kids.length : Int)) = false := decide_eq_false (by omega)
         have hst := HSR.out
         rw [List.drop_of_length_le (by omega), rgtsO] at hst
         obtain ⟨e1, e2⟩ := Prod.mk.inj (Option.some.inj hst)
         have HE := Lib.hid e1
         subst e2
         clear hst e1 HSR
         go_wp2_with (fail)
         go_ret
         exact ⟨by rw [← HE.out]; first | done | rfl, HXR.out.bel, HXR.out.cnt, HXR.out.kb⟩
        have hc1 : decide ((j : Int) < (kids.length : Int)) = true := decide_eq_true (by omega)
        obtain ⟨bd, A3, c3, eA, y0, y1, y2, y3, hc3, hC3⟩ := at_T29 HR.out (j : Int) (by omega) (by omega)
        subst eA
        have y0 := (HXR.out.bel.cell (World.block_lt_of_cell? w0 _ y0)).trans y0
        have y1 := (HXR.out.bel.cell (World.block_lt_of_cell? w0 _ y1)).trans y1
        have y2 := (HXR.out.bel.cell (World.block_lt_of_cell? w0 _ y2)).trans y2
        have y3 := (HXR.out.bel.cell (World.block_lt_of_cell? w0 _ y3)).trans y3
        have hst := HSR.out
        rw [List.drop_eq_getElem_cons hlj, ← rdT_nth kids j hlj, rgtsO] at hst
        rw [Int.toNat_natCast] at y0 y1 y2 y3
        generalize rd_T29 kids (j : Int) = k at *
        obtain ⟨kk, kt, ka, kkids⟩ := k
        dsimp only at y0 y1 y2 y3 hc3 hC3 hst
        have HLJ := Lib.hid hlj
        have HC3 := Lib.hid hC3
        have p6 : (0 ≤ (j : Int)) = True := eq_true (by omega)
        have p7 : ((j : Int) < (kids.length : Int)) = True := eq_true (by omega)
        have HX8 := Lib.hid (HXR.out.below (below_alloc (Below.refl _ _) (.cells #[.int .i64 kk, .string kt, .string ka, .slice A3 kkids.length c3] 29)))
        have HKB := Lib.hid (blk_new wr (.cells #[.int .i64 kk, .string kt, .string ka, .slice A3 kkids.length c3] 29))
        obtain ⟨z0, z1, z2, z3, z4, z5⟩ := HX8.out.cells
        have u0 := (blk_cell HKB.out 0).trans rfl
        have u1 := (blk_cell HKB.out 1).trans rfl
        have u2 := (blk_cell HKB.out 2).trans rfl
        have u3 := (blk_cell HKB.out 3).trans rfl
        clear hC3 HSR
        rw [if_neg (by simp)] at hst
        obtain ⟨q, hq⟩ : ∃ q, rgtO K ⟨kk, kt, ka, kkids⟩ (deep + 1) lf = some q := by
         cases hv : rgtO K ⟨kk, kt, ka, kkids⟩ (deep + 1) lf with
         | none => rw [hv] at hst; cases hst
         | some q => exact ⟨q, rfl⟩
        rw [hq] at hst
        obtain ⟨b2, l2⟩ := q
        dsimp only at hst
        have hlf := rgt_left K ⟨kk, kt, ka, kkids⟩ (deep + 1) lf b2 l2 hq
        have HQ := Lib.hid hq
        clear hq
        cases b2 with
        | false =>
         rw [if_pos rfl] at hst
         obtain ⟨e1, e2⟩ := Prod.mk.inj (Option.some.inj hst)
         have HE := Lib.hid e1
         subst e2
         clear hst e1 hlf
         go_wp2_with (first | (go_at_call 40; refine (IH.out ⟨kk, kt, ka, kkids⟩ (deep + 1) lf _ l2 _ (A3) c3 HC3.out hc3 HX8.out.bel HX8.out.cnt HQ.out (by omega) hd64 hl2 hl3).mono ?_; rintro e w10 ⟨rfl, hb10, hc10, hk10⟩; have HXA := Lib.hid (HX8.out.call hc10 hb10 hk10); clear hb10 hc10 hk10))
         go_ret
         exact ⟨by rw [← HE.out]; first | done | rfl, HXA.out.bel, HXA.out.cnt, HXA.out.kb⟩
        | true =>
         rw [if_neg (by decide)] at hst
         have HN2 := Lib.hid hst
         have hl4 := hlf.2 rfl
         have hl5 := hlf.1
         clear hst hlf
         go_wp2_with (first | (go_at_call 40; refine (IH.out ⟨kk, kt, ka, kkids⟩ (deep + 1) lf _ l2 _ (A3) c3 HC3.out hc3 HX8.out.bel HX8.out.cnt HQ.out (by omega) hd64 hl2 hl3).mono ?_; rintro e w10 ⟨rfl, hb10, hc10, hk10⟩; have HXA := Lib.hid (HX8.out.call hc10 hb10 hk10); clear hb10 hc10 hk10))
         go_roundw
         case rel => exact ⟨j + 1, l2, by go_num, HLJ.out, hl4, by omega, HN2, HXA⟩
         case measure => have := HLJ.out; simp [intOf]; omega
     ·
      subst eM
      rcases hp with ⟨a4, a5⟩ | ⟨a4, a5⟩
      case' inl => subst a5; have p4 : (an.toList = []) = False := eq_false a4; have q4 : (an.toList != []) = true := bne_iff_ne.2 a4; clear a4
      case' inr => have p4 : (an.toList = []) = True := eq_true a4; have q4 : (an.toList != []) = false := by rw [a4]; rfl
      case' inr => clear a4 a5
      all_goals
       go_enter Tryz.func40, Tryz.ntmps40
       go_wp2_with (first | ((with_reducible refine gate_dst (N := 4) rfl ?_); refine box_event ?hg (N := 4) ?hd (cs := #[.int .i64 kd, .string tt, .string an, .slice A kids.length c]) (t := 29) ?hr ?_; (case hd => rfl); (case hg => rfl); (case hr => first | (go_simp; done) | (go_simp; rfl)); intro tb ht w1 htb hb1; have HX1 := Lib.hid (Fw.mk (w0 := w0) (W := W) ((hb1.block cb (blk_lt HC.out)).trans HC.out) htb (HB.out.trans (hb1.mono HB.out.size)) (KeepBut.of_below hb1 cb none) ⟨hcb, blk_lt HC.out, by rw [ht]; exact Nat.le_refl _⟩); have HX2 := Lib.hid (HX1.out.dec (left - 1)); clear htb hb1 ht; obtain ⟨x0, x1, x2, x3, x4, x5⟩ := HX1.out.cells; obtain ⟨y0, y1, y2, y3, y4, y5⟩ := HX2.out.cells) | (go_at_call 59; refine (flow_isText.calls _ _ _ _ _ (hG.below HX2.out.bel) HT.out).mono ?_; rintro e w3 ⟨rfl, hb3⟩; have HX3 := Lib.hid (HX2.out.below hb3); clear hb3 x0 x1 x2 x3 x4 x5 y0 y1 y2 y3 y4 y5; obtain ⟨y0, y1, y2, y3, y4, y5⟩ := HX3.out.cells) | (go_at_call 60; refine (flow_Name.calls _ _ _ (hG.below HX3.out.bel) HN.out).mono ?_; rintro e w4 ⟨rfl, hb4⟩; have HX4 := Lib.hid (HX3.out.below hb4); clear hb4 y0 y1 y2 y3 y4 y5; obtain ⟨y0, y1, y2, y3, y4, y5⟩ := HX4.out.cells))
       first | have HX := HX4 | have HX := HX3
       clear y0 y1 y2 y3 y4 y5 HX1 HX2 HT HN HC HB
       go_loopw [83] (fun v wr => ∃ (j : Nat) (lf : Int), v = .int .i64 j ∧ j ≤ kids.length ∧ 0 ≤ lf ∧ lf ≤ 4096 ∧ Hid (rgtsO (fun k => rgtO K k (deep + 1)) true j (kids.drop j) lf = some (b, left')) ∧ Hid (Fw w0 W cb tb kd tt an (.slice A kids.length c) lf wr)) (fun v _ => kids.length - (intOf v).toNat)
       case atStart => exact ⟨0, _, rfl, by omega, by have := of_decide_eq_false q1; omega, by omega, HS, HX⟩
       case round =>
        clear HX HS
        obtain ⟨j, lf, rfl, hj, hl2, hl3, HSR, HXR⟩ := hrel
        obtain ⟨x0, x1, x2, x3, x4, x5⟩ := HXR.out.cells
        by_cases hlj : j < kids.length
        rotate_left
        ·
         have hc1 : decide ((j : Int) < (kids.length : Int)) = false := decide_eq_false (by omega)
         have hst := HSR.out
         rw [List.drop_of_length_le (by omega), rgtsO] at hst
         obtain ⟨e1, e2⟩ := Prod.mk.inj (Option.some.inj hst)
         have HE := Lib.hid e1
         subst e2
         clear hst e1 HSR
         go_wp2_with (fail)
         go_ret
         exact ⟨by rw [← HE.out]; first | done | rfl, HXR.out.bel, HXR.out.cnt, HXR.out.kb⟩
        have hc1 : decide ((j : Int) < (kids.length : Int)) = true := decide_eq_true (by omega)
        obtain ⟨bd, A3, c3, eA, y0, y1, y2, y3, hc3, hC3⟩ := at_T29 HR.out (j : Int) (by omega) (by omega)
        subst eA
        have y0 := (HXR.out.bel.cell (World.block_lt_of_cell? w0 _ y0)).trans y0
        have y1 := (HXR.out.bel.cell (World.block_lt_of_cell? w0 _ y1)).trans y1
        have y2 := (HXR.out.bel.cell (World.block_lt_of_cell? w0 _ y2)).trans y2
        have y3 := (HXR.out.bel.cell (World.block_lt_of_cell? w0 _ y3)).trans y3
        have hst := HSR.out
        rw [List.drop_eq_getElem_cons hlj, ← rdT_nth kids j hlj, rgtsO] at hst
        rw [Int.toNat_natCast] at y0 y1 y2 y3
        generalize rd_T29 kids (j : Int) = k at *
        obtain ⟨kk, kt, ka, kkids⟩ := k
        dsimp only at y0 y1 y2 y3 hc3 hC3 hst
        have HLJ := Lib.hid hlj
        have HC3 := Lib.hid hC3
        have p6 : (0 ≤ (j : Int)) = True := eq_true (by omega)
        have p7 : ((j : Int) < (kids.length : Int)) = True := eq_true (by omega)
        have HX8 := Lib.hid (HXR.out.below (below_alloc (Below.refl _ _) (.cells #[.int .i64 kk, .string kt, .string ka, .slice A3 kkids.length c3] 29)))
        have HKB := Lib.hid (blk_new wr (.cells #[.int .i64 kk, .string kt, .string ka, .slice A3 kkids.length c3] 29))
        obtain ⟨z0, z1, z2, z3, z4, z5⟩ := HX8.out.cells
        have u0 := (blk_cell HKB.out 0).trans rfl
        have u1 := (blk_cell HKB.out 1).trans rfl
        have u2 := (blk_cell HKB.out 2).trans rfl
        have u3 := (blk_cell HKB.out 3).trans rfl
        clear hC3 HSR
        have hsc : ∃ sc, flow_isScalar.f kk = some sc := by unfold flow_isScalar.f; first | exact ⟨_, rfl⟩ | (split <;> exact ⟨_, rfl⟩)
        obtain ⟨sc, hsc⟩ := hsc
        by_cases hpj : j % 2 = 0
        rotate_left
        ·
         have r7 : (j : Int).tmod 2 = 1 := by { rw [Int.tmod_eq_emod_of_nonneg (by omega)]; omega }
         rw [if_neg (fun e => hpj e.2.1)] at hst
         clear hpj hsc
         obtain ⟨q, hq⟩ : ∃ q, rgtO K ⟨kk, kt, ka, kkids⟩ (deep + 1) lf = some q := by
          cases hv : rgtO K ⟨kk, kt, ka, kkids⟩ (deep + 1) lf with
          | none => rw [hv] at hst; cases hst
          | some q => exact ⟨q, rfl⟩
         rw [hq] at hst
         obtain ⟨b2, l2⟩ := q
         dsimp only at hst
         have hlf := rgt_left K ⟨kk, kt, ka, kkids⟩ (deep + 1) lf b2 l2 hq
         have HQ := Lib.hid hq
         clear hq
         cases b2 with
         | false =>
          rw [if_pos rfl] at hst
          obtain ⟨e1, e2⟩ := Prod.mk.inj (Option.some.inj hst)
          have HE := Lib.hid e1
          subst e2
          clear hst e1 hlf
          go_wp2_with (first | (go_at_call 40; refine (IH.out ⟨kk, kt, ka, kkids⟩ (deep + 1) lf _ l2 _ (A3) c3 HC3.out hc3 HX8.out.bel HX8.out.cnt HQ.out (by omega) hd64 hl2 hl3).mono ?_; rintro e w10 ⟨rfl, hb10, hc10, hk10⟩; have HXA := Lib.hid (HX8.out.call hc10 hb10 hk10); clear hb10 hc10 hk10))
          go_ret
          exact ⟨by rw [← HE.out]; first | done | rfl, HXA.out.bel, HXA.out.cnt, HXA.out.kb⟩
         | true =>
          rw [if_neg (by decide)] at hst
          have HN2 := Lib.hid hst
          have hl4 := hlf.2 rfl
          have hl5 := hlf.1
          clear hst hlf
          go_wp2_with (first | (go_at_call 40; refine (IH.out ⟨kk, kt, ka, kkids⟩ (deep + 1) lf _ l2 _ (A3) c3 HC3.out hc3 HX8.out.bel HX8.out.cnt HQ.out (by omega) hd64 hl2 hl3).mono ?_; rintro e w10 ⟨rfl, hb10, hc10, hk10⟩; have HXA := Lib.hid (HX8.out.call hc10 hb10 hk10); clear hb10 hc10 hk10))
          go_roundw
          case rel => exact ⟨j + 1, l2, by go_num, HLJ.out, hl4, by omega, HN2, HXA⟩
          case measure => have := HLJ.out; simp [intOf]; omega
        have r7 : (j : Int).tmod 2 = 0 := by { rw [Int.tmod_eq_emod_of_nonneg (by omega)]; omega }
        have HSC := Lib.hid hsc
        cases sc with
        | false =>
         have hcond : true = true ∧ j % 2 = 0 ∧ (flow_isScalar.f kk = some false ∨ ka.toList ≠ []) := ⟨rfl, hpj, .inl hsc⟩
         clear hpj hsc
         rw [if_pos hcond] at hst
         obtain ⟨e1, e2⟩ := Prod.mk.inj (Option.some.inj hst)
         have HE := Lib.hid e1
         subst e2
         clear hst e1 hcond
         go_wp2_with (first | (go_at_call 61; refine (flow_isScalar.calls _ _ _ (hG.below HX8.out.bel) HSC.out).mono ?_; rintro e w9 ⟨rfl, hd9⟩; have HX9 := Lib.hid (HX8.out.below hd9.below); have hk9 := (hd9.below.block wr.heap.size (blk_lt HKB.out)).trans HKB.out; clear hd9 z0 z1 z2 z3 z4 z5 u0 u1 u2 u3; obtain ⟨z0, z1, z2, z3, z4, z5⟩ := HX9.out.cells; have u0 := (blk_cell hk9 0).trans rfl; have u1 := (blk_cell hk9 1).trans rfl; have u2 := (blk_cell hk9 2).trans rfl; have u3 := (blk_cell hk9 3).trans rfl; clear hk9))
         go_ret
         exact ⟨by rw [← HE.out]; first | done | rfl, HX9.out.bel, HX9.out.cnt, HX9.out.kb⟩
        | true =>
         by_cases ha : ka.toList = []
         rotate_left
         ·
          have hcond : true = true ∧ j % 2 = 0 ∧ (flow_isScalar.f kk = some false ∨ ka.toList ≠ []) := ⟨rfl, hpj, .inr ha⟩
          have t4 : (ka.toList = []) = False := eq_false ha
          have t5 : (ka.toList != []) = true := bne_iff_ne.2 ha
          have t6 : ka.toList.isEmpty = false := by rw [← Bool.not_eq_true, List.isEmpty_iff]; exact ha
          clear ha hpj hsc
          rw [if_pos hcond] at hst
          obtain ⟨e1, e2⟩ := Prod.mk.inj (Option.some.inj hst)
          have HE := Lib.hid e1
          subst e2
          clear hst e1 hcond
          go_wp2_with (first | (go_at_call 61; refine (flow_isScalar.calls _ _ _ (hG.below HX8.out.bel) HSC.out).mono ?_; rintro e w9 ⟨rfl, hd9⟩; have HX9 := Lib.hid (HX8.out.below hd9.below); have hk9 := (hd9.below.block wr.heap.size (blk_lt HKB.out)).trans HKB.out; clear hd9 z0 z1 z2 z3 z4 z5 u0 u1 u2 u3; obtain ⟨z0, z1, z2, z3, z4, z5⟩ := HX9.out.cells; have u0 := (blk_cell hk9 0).trans rfl; have u1 := (blk_cell hk9 1).trans rfl; have u2 := (blk_cell hk9 2).trans rfl; have u3 := (blk_cell hk9 3).trans rfl; clear hk9))
          go_ret
          exact ⟨by rw [← HE.out]; first | done | rfl, HX9.out.bel, HX9.out.cnt, HX9.out.kb⟩
         rw [if_neg (fun e => e.2.2.elim (fun z => by rw [hsc] at z; cases z) (fun z => z ha))] at hst
         have t4 : (ka.toList = []) = True := eq_true ha
         have t5 : (ka.toList != []) = false := by rw [ha]; rfl
         have t6 : ka.toList.isEmpty = true := by rw [ha]; rfl
         clear ha hpj hsc
         obtain ⟨q, hq⟩ : ∃ q, rgtO K ⟨kk, kt, ka, kkids⟩ (deep + 1) lf = some q := by
          cases hv : rgtO K ⟨kk, kt, ka, kkids⟩ (deep + 1) lf with
          | none => rw [hv] at hst; cases hst
          | some q => exact ⟨q, rfl⟩
         rw [hq] at hst
         obtain ⟨b2, l2⟩ := q
         dsimp only at hst
         have hlf := rgt_left K ⟨kk, kt, ka, kkids⟩ (deep + 1) lf b2 l2 hq
         have HQ := Lib.hid hq
         clear hq
         cases b2 with
         | false =>
          rw [if_pos rfl] at hst
          obtain ⟨e1, e2⟩ := Prod.mk.inj (Option.some.inj hst)
          have HE := Lib.hid e1
          subst e2
          clear hst e1 hlf
          go_wp2_with (first | (go_at_call 61; refine (flow_isScalar.calls _ _ _ (hG.below HX8.out.bel) HSC.out).mono ?_; rintro e w9 ⟨rfl, hd9⟩; have HX9 := Lib.hid (HX8.out.below hd9.below); have hk9 := (hd9.below.block wr.heap.size (blk_lt HKB.out)).trans HKB.out; clear hd9 z0 z1 z2 z3 z4 z5 u0 u1 u2 u3; obtain ⟨z0, z1, z2, z3, z4, z5⟩ := HX9.out.cells; have u0 := (blk_cell hk9 0).trans rfl; have u1 := (blk_cell hk9 1).trans rfl; have u2 := (blk_cell hk9 2).trans rfl; have u3 := (blk_cell hk9 3).trans rfl; clear hk9) | (go_at_call 40; refine (IH.out ⟨kk, kt, ka, kkids⟩ (deep + 1) lf _ l2 _ (A3) c3 HC3.out hc3 HX9.out.bel HX9.out.cnt HQ.out (by omega) hd64 hl2 hl3).mono ?_; rintro e w10 ⟨rfl, hb10, hc10, hk10⟩; have HXA := Lib.hid (HX9.out.call hc10 hb10 hk10); clear hb10 hc10 hk10))
          go_ret
          exact ⟨by rw [← HE.out]; first | done | rfl, HXA.out.bel, HXA.out.cnt, HXA.out.kb⟩
         | true =>
          rw [if_neg (by decide)] at hst
          have HN2 := Lib.hid hst
          have hl4 := hlf.2 rfl
          have hl5 := hlf.1
          clear hst hlf
          go_wp2_with (first | (go_at_call 61; refine (flow_isScalar.calls _ _ _ (hG.below HX8.out.bel) HSC.out).mono ?_; rintro e w9 ⟨rfl, hd9⟩; have HX9 := Lib.hid (HX8.out.below hd9.below); have hk9 := (hd9.below.block wr.heap.size (blk_lt HKB.out)).trans HKB.out; clear hd9 z0 z1 z2 z3 z4 z5 u0 u1 u2 u3; obtain ⟨z0, z1, z2, z3, z4, z5⟩ := HX9.out.cells; have u0 := (blk_cell hk9 0).trans rfl; have u1 := (blk_cell hk9 1).trans rfl; have u2 := (blk_cell hk9 2).trans rfl; have u3 := (blk_cell hk9 3).trans rfl; clear hk9) | (go_at_call 40; refine (IH.out ⟨kk, kt, ka, kkids⟩ (deep + 1) lf _ l2 _ (A3) c3 HC3.out hc3 HX9.out.bel HX9.out.cnt HQ.out (by omega) hd64 hl2 hl3).mono ?_; rintro e w10 ⟨rfl, hb10, hc10, hk10⟩; have HXA := Lib.hid (HX9.out.call hc10 hb10 hk10); clear hb10 hc10 hk10))
          go_roundw
          case rel => exact ⟨j + 1, l2, by go_num, HLJ.out, hl4, by omega, HN2, HXA⟩
          case measure => have := HLJ.out; simp [intOf]; omega
end Go.Proofs.YtnjcpoojgmpmeaaGreatDoor.Plug
namespace Go.Proofs.YtnjcpoojgmpmeaaGreatDoor.Plug
open RowKit YtnjcpoojgmpmeaaGreatDoor YtnjcpoojgmpmeaaGreatDoor.PX YtnjcpoojgmpmeaaGreatDoor.Utf YtnjcpoojgmpmeaaGreatDoorW.PrintWords YtnjcpoojgmpmeaaGreatDoorW.PrintLast
theorem rowF_move {w w1 : World} {B : Nat} {e : TypeId} {v : Value} {n : Nat} {xs : List Value} (h : w.ownsRowF B e 1 v n xs) (hm : ∀ k, v.ownBlock = some k → w1.heap[k]? = w.heap[k]?) : w1.ownsRowF B e 1 v n xs := by
 obtain ⟨h1, h2⟩ := h
 refine ⟨h1, ?_⟩
 rcases h2 with h2 | ⟨g, cap, cur, fz, rfl, hg, hh, r⟩
 · exact .inl h2
 · exact .inr ⟨g, cap, cur, fz, rfl, hg, (hm g (by simp [Value.ownBlock])).trans hh, r⟩
theorem bld_below {T e : TypeId} {B b : Nat} {bs : List Value} {w w1 : World} (h : Lib.IsBuilderF T e B b bs w) (hb : Below w.heap.size w w1) : Lib.IsBuilderF T e B b bs w1 := by
 have key : ∀ p, Lib.BuilderAtF T e B b p bs w → Lib.BuilderAtF T e B b p bs w1 := by
  rintro p ⟨h1, v, h2, h3, h4⟩
  refine ⟨h1, v, (hb.block b (Bld.at_lt h2)).trans h2, rowF_move h3 (fun k hk => hb.block k ?_), h4⟩
  rcases h3.2 with ⟨rfl, _⟩ | ⟨g, cap, cur, fz, rfl, hg, hh, _⟩
  · simp [Value.ownBlock] at hk
  ·
   have : g = k := by simpa [Value.ownBlock] using hk
   subst this; exact Bld.at_lt hh
 exact h.elim (fun x => .inl (key _ x)) (fun x => .inr (key _ x))
end Go.Proofs.YtnjcpoojgmpmeaaGreatDoor.Plug
namespace Go.Proofs.YtnjcpoojgmpmeaaGreatDoor.Plug
open RowKit YtnjcpoojgmpmeaaGreatDoor YtnjcpoojgmpmeaaGreatDoor.PX YtnjcpoojgmpmeaaGreatDoor.Utf YtnjcpoojgmpmeaaGreatDoorW.PrintWords YtnjcpoojgmpmeaaGreatDoorW.PrintLast YtnjcpoojgmpmeaaGreatDoorW.PrintMore
set_option linter.unusedVariables false
set_option linter.unusedSimpArgs false
def flow_Right.f (a0 : Int) (a1 a2 : ByteArray) (l3 : List S29) : Option Bool := (rgtO 67 ⟨a0, a1, a2, l3⟩ 0 4096).map (·.1)
set_option maxHeartbeats 8000000 in
set_option maxRecDepth 100000 in
theorem flow_Right.calls (a0 : Int) (a1 a2 : ByteArray) (A3 : Option Addr) (c3 : Nat) (l3 : List S29) (r : Bool) (w : World) (hr : Kd.C k29 w A3 l3.length l3) (hc : l3.length ≤ c3) (hG : Glob.G w) (h : flow_Right.f a0 a1 a2 l3 = some r) :
  Calls Tryz.prog 24 #[.agg #[.int .i64 a0, .string a1, .string a2, .slice A3 l3.length c3]] w fun e w' => e = .returned (.bool r) ∧ Below w.heap.size w w' := by
 obtain ⟨p, hp1, hp2⟩ := Option.map_eq_some_iff.1 h
 obtain ⟨b, lf⟩ := p
 dsimp only at hp2
 subst hp2
 have HP := Lib.hid hp1
 have HR := Lib.hid hr
 clear h hr hp1
 go_enter Tryz.func24, Tryz.ntmps24
 go_wp2_with (first | ((with_reducible refine gate_dst (N := 1) rfl ?_); refine box_event ?hg (N := 1) ?hd (cs := #[.int .i64 a0, .string a1, .string a2, .slice A3 l3.length c3]) (t := 29) ?hr ?_; (case hd => rfl); (case hg => rfl); (case hr => first | (go_simp; done) | (go_simp; rfl)); intro tb ht w1 htb hb1; have HTB := Lib.hid htb; have HB1 := Lib.hid hb1; clear htb hb1 ht; have HTB2 := Lib.hid ((Lib.alloc_old w1 (.cells #[.int .i64 4096] 92) tb (blk_lt HTB.out)).trans HTB.out); have x0 := (blk_cell HTB2.out 0).trans rfl; have x1 := (blk_cell HTB2.out 1).trans rfl; have x2 := (blk_cell HTB2.out 2).trans rfl; have x3 := (blk_cell HTB2.out 3).trans rfl; have HC := Lib.hid (blk_new w1 (.cells #[.int .i64 4096] 92)); have HB2 := Lib.hid (below_alloc HB1.out (.cells #[.int .i64 4096] 92)); have hwb : w.heap.size ≤ w1.heap.size := HB1.out.size) | (go_at_call 40; refine (right_is w hG w1.heap.size hwb 67 ⟨a0, a1, a2, l3⟩ 0 4096 b lf _ A3 c3 HR.out hc HB2.out HC.out HP.out (by omega) (by omega) (by omega) (by omega)).mono ?_; rintro e w9 ⟨rfl, hb9, _, _⟩; have HB9 := Lib.hid hb9; clear hb9))
 go_ret
 exact ⟨rfl, HB9.out⟩
def putsT (f : S29 → Option (List UInt8)) : Nat → List S29 → Option (List UInt8)
 | _, [] => some []
 | i, k :: r => match f k, putsT f (i + 1) r with
  | some x, some y => some ((if i = 0 then [] else [44, 32]) ++ (x ++ y))
  | _, _ => none
def putT : Nat → S29 → Option (List UInt8)
 | 0, _ => none
 | K + 1, t =>
  if 1099511627776 < t.f3.length ∨ 1099511627776 < t.f2.size then none
  else if t.f0 = 7 then some (42 :: t.f2.data.toList)
  else if t.f0 = 3 then (if t.f2.toList = [] then some t.f1.data.toList else none)
  else if t.f0 = 5 then (if t.f2.toList = [] then none else (putsT (putT K) 0 t.f3).map fun x => (38 :: (t.f2.data.toList ++ [32])) ++ (91 :: (x ++ [93])))
  else none
structure Pw (w0 W : World) (b tb : Nat) (kd : Int) (tx an : ByteArray) (v : Value) (l : List UInt8) (Z : World) : Prop where
 bld : Lib.IsBuilderF 99 5 b b (Lib.byteCells l) Z
 box : Z.heap[tb]? = some (.cells #[.int .i64 kd, .string tx, .string an, v] 29)
 bel : Below w0.heap.size w0 Z
 kp : Lib.OthersKept 5 (some b) W Z
 lt : w0.heap.size ≤ b ∧ b < W.heap.size ∧ W.heap.size ≤ tb ∧ W.heap.size ≤ Z.heap.size
section
variable {w0 W Z Z' : World} {b tb : Nat} {kd : Int} {tx an : ByteArray} {v : Value} {l l' : List UInt8}
theorem kept_ (h : Below Z.heap.size Z Z') : Lib.OthersKept 5 (some b) Z Z' := by
 intro k o hk _ _
 exact (h.block k (Bld.at_lt hk)).trans hk
theorem Pw.cells (h : Pw w0 W b tb kd tx an v l Z) : Z.cell? ⟨tb, 0, none⟩ = some (.int .i64 kd) ∧ Z.cell? ⟨tb, 1, none⟩ = some (.string tx) ∧ Z.cell? ⟨tb, 2, none⟩ = some (.string an) ∧ Z.cell? ⟨tb, 3, none⟩ = some v :=
  ⟨(blk_cell h.box 0).trans rfl, (blk_cell h.box 1).trans rfl, (blk_cell h.box 2).trans rfl, (blk_cell h.box 3).trans rfl⟩
theorem Pw.call (h : Pw w0 W b tb kd tx an v l Z) (hbl : Lib.IsBuilderF 99 5 b b (Lib.byteCells l') Z') (hb : Below w0.heap.size w0 Z') (hk : Lib.OthersKept 5 (some b) Z Z') (hs : Z.heap.size ≤ Z'.heap.size) : Pw w0 W b tb kd tx an v l' Z' := by
 obtain ⟨l1, l2, l3, l4⟩ := h.lt
 exact ⟨hbl, hk tb _ h.box (fun e => by have := Option.some.inj e; omega) (fun c fz e => by injection e with e1 e2; exact absurd e2 (by decide)), hb, h.kp.trans hk, by omega⟩
theorem Pw.below (h : Pw w0 W b tb kd tx an v l Z) (hb : Below Z.heap.size Z Z') : Pw w0 W b tb kd tx an v l Z' :=
  h.call (bld_below h.bld hb) (h.bel.trans (hb.mono h.bel.size)) (kept_ hb) hb.size
theorem Pw.text (h : Pw w0 W b tb kd tx an v l Z) (s : ByteArray) (hl : l.length + s.size ≤ 70368744177664) :
  Calls Tryz.prog 63 #[.pointer (some ⟨b, 0, none⟩), .string s] Z fun e Z' => ∃ n : Int, e = .returned (.tuple #[.int .i64 n, .nilIface]) ∧ Pw w0 W b tb kd tx an v (l ++ s.data.toList) Z' ∧ Lib.OthersKept 5 (some b) Z Z' :=
 (Bld.text 99 Bld.lies_plain b b _ s Z h.bld (by rw [Lib.byteCells_length]; omega) (by have := h.lt; omega)).mono fun e Z' ⟨he, h1, h2, h3⟩ => ⟨_, he, h.call (by rw [Lib.byteCells_append]; exact .inr h1) (h.bel.trans (h2.mono h.lt.1)) h3 h2.size, h3⟩
theorem Pw.byte (h : Pw w0 W b tb kd tx an v l Z) (c : UInt8) (hl : l.length ≤ 70368744177664) :
  Calls Tryz.prog 65 #[.pointer (some ⟨b, 0, none⟩), .int .u8 (c.toNat : Int)] Z fun e Z' => e = .returned .nilIface ∧ Pw w0 W b tb kd tx an v (l ++ [c]) Z' :=
 (Bld.byte 99 Bld.lies_plain b b _ (c.toNat : Int) Z h.bld (by rw [Lib.byteCells_length]; omega) (by have := h.lt; omega)).mono fun e Z' ⟨he, h1, h2, h3⟩ => ⟨he, h.call (by rw [Lib.byteCells_append]; exact .inr h1) (h.bel.trans (h2.mono h.lt.1)) h3 h2.size⟩
end
set_option maxHeartbeats 8000000 in
set_option maxRecDepth 100000 in
theorem scalar_int (tx an : ByteArray) (A3 : Option Addr) (n3 c3 : Nat) (fl : Bool) (w : World) :
  Calls Tryz.prog 64 #[.agg #[.int .i64 3, .string tx, .string an, .slice A3 n3 c3], .bool fl] w fun e w' => e = .returned (.string tx) ∧ Below w.heap.size w w' := by
 obtain ⟨v, hv⟩ : ∃ v, Value.slice A3 n3 c3 = v := ⟨_, rfl⟩
 go_enter Tryz.func64, Tryz.ntmps64
 rw [hv]
 go_wp2_with (first | ((with_reducible refine gate_dst (N := 2) rfl ?_); refine box_event ?hg (N := 2) ?hd (cs := #[.int .i64 3, .string tx, .string an, v]) (t := 29) ?hr ?_; (case hd => rfl); (case hg => rfl); (case hr => first | (go_simp; done) | (go_simp; rfl)); intro tb ht w1 htb hb1; have HTB := Lib.hid htb; have HB1 := Lib.hid hb1; clear htb hb1 ht; have x0 := (blk_cell HTB.out 0).trans rfl; have x1 := (blk_cell HTB.out 1).trans rfl))
 go_ret
 exact ⟨rfl, HB1.out⟩
theorem scalar_int' (kd : Int) (hk : kd = 3) (tx an : ByteArray) (A3 : Option Addr) (n3 c3 : Nat) (fl : Bool) (w : World) :
  Calls Tryz.prog 64 #[.agg #[.int .i64 kd, .string tx, .string an, .slice A3 n3 c3], .bool fl] w fun e w' => e = .returned (.string tx) ∧ Below w.heap.size w w' := by
 subst hk
 exact scalar_int tx an A3 n3 c3 fl w
theorem add_list (a b : ByteArray) : (a ++ b).data.toList = a.data.toList ++ b.data.toList := by simp
set_option maxHeartbeats 8000000 in
set_option maxRecDepth 100000 in
theorem put_is (w0 : World) (b : Nat) (hcb : w0.heap.size ≤ b) :
  ∀ (K : Nat) (t : S29) (l x : List UInt8) (W : World) (A : Option Addr) (c : Nat), Kd.C k29 w0 A t.f3.length t.f3 → t.f3.length ≤ c → Below w0.heap.size w0 W → Lib.IsBuilderF 99 5 b b (Lib.byteCells l) W → b < W.heap.size → putT K t = some x → l.length + x.length ≤ 70368744177664 →
   Calls Tryz.prog 43 #[.pointer (some ⟨b, 0, none⟩), .agg #[.int .i64 t.f0, .string t.f1, .string t.f2, .slice A t.f3.length c]] W fun e W' => e = .returned (.tuple #[]) ∧ Lib.IsBuilderF 99 5 b b (Lib.byteCells (l ++ x)) W' ∧ Below w0.heap.size w0 W' ∧ Lib.OthersKept 5 (some b) W W' ∧ W.heap.size ≤ W'.heap.size := by
 intro K
 induction K with
 | zero => intro t l x W A c _ _ _ _ _ h; unfold putT at h; cases h
 | succ K ih =>
  intro t l x W A c hr hc hb hbl hbs h hlen
  obtain ⟨kd, tt, an, kids⟩ := t
  rw [putT] at h
  dsimp only at h hr hc ⊢
  have HR := Lib.hid hr
  have HB := Lib.hid hb
  have HBL := Lib.hid hbl
  have IH := Lib.hid ih
  clear hr hb hbl ih
  by_cases hz : 1099511627776 < kids.length ∨ 1099511627776 < an.size
  · rw [if_pos hz] at h; cases h
  rw [if_neg hz] at h
  have hz1 : kids.length ≤ 1099511627776 := by omega
  have hz2 : an.size ≤ 1099511627776 := by omega
  clear hz
  have HS1 : Hid (∀ W : World, (Op.stringOp .add ⟨#[42]⟩ an).run Tryz.prog W = .ok (.string (⟨#[42]⟩ ++ an)) W) := Lib.hid (fun W => run_string_add_sum W _ _ (by rw [show (⟨#[42]⟩ : ByteArray).size = 1 from rfl]; omega))
  by_cases c7 : kd = 7
  ·
   rw [if_pos c7] at h
   have HX := Lib.hid (Option.some.inj h)
   have q7 : (kd == 7) = true := beq_iff_eq.2 c7
   have hadd := HS1.out
   have hl2 : l.length + (⟨#[42]⟩ ++ an : ByteArray).size ≤ 70368744177664 := by
    rw [← HX.out] at hlen
    rw [ByteArray.size_append, show (⟨#[42]⟩ : ByteArray).size = 1 from rfl]
    have := size_list an
    simp only [List.length_cons] at hlen
    omega
   clear h c7
   go_enter Tryz.func43, Tryz.ntmps43
   go_wp2_with (first | ((with_reducible refine gate_dst (N := 3) rfl ?_); refine box_event ?hg (N := 3) ?hd (cs := #[.int .i64 kd, .string tt, .string an, .slice A kids.length c]) (t := 29) ?hr ?_; (case hd => rfl); (case hg => rfl); (case hr => first | (go_simp; done) | (go_simp; rfl)); intro tb ht w1 htb hb1; have HX1 := Lib.hid (Pw.mk (w0 := w0) (W := W) (bld_below HBL.out hb1) htb (HB.out.trans (hb1.mono HB.out.size)) (kept_ hb1) ⟨hcb, hbs, by rw [ht]; exact Nat.le_refl _, hb1.size⟩); clear htb hb1 ht; obtain ⟨x0, x1, x2, x3⟩ := HX1.out.cells) | (go_at_call 63; refine (HX1.out.text _ hl2).mono ?_; rintro e w3 ⟨n3, rfl, hX3, _⟩; have HX3 := Lib.hid hX3; clear hX3))
   (try simp only [Exit.inBlock, Exit.then])
   refine bodyPost_ret (results_none rfl _ _ _) rfl ?_
   refine ⟨rfl, ?_, HX3.out.bel, HX3.out.kp, HX3.out.lt.2.2.2⟩
   have hb3 := HX3.out.bld
   rw [add_list] at hb3
   rw [← HX.out]
   exact hb3
  rw [if_neg c7] at h
  have q7 : (kd == 7) = false := beq_eq_false_iff_ne.2 c7
  by_cases c3 : kd = 3
  ·
   rw [if_pos c3] at h
   by_cases ha : an.toList = []
   rotate_left
   · rw [if_neg ha] at h; cases h
   rw [if_pos ha] at h
   have HX := Lib.hid (Option.some.inj h)
   have HK3 := Lib.hid c3
   have p4 : (an.toList = []) = True := eq_true ha
   have q4 : (an.toList != []) = false := by rw [ha]; rfl
   have t6 : an.toList.isEmpty = true := by rw [ha]; rfl
   have q5 : (kd == 5) = false := beq_eq_false_iff_ne.2 (by omega)
   have q6 : (kd == 6) = false := beq_eq_false_iff_ne.2 (by omega)
   have hl2 : l.length + tt.size ≤ 70368744177664 := by
    rw [← HX.out] at hlen
    have := size_list tt
    omega
   clear h c3 ha c7
   go_enter Tryz.func43, Tryz.ntmps43
   go_wp2_with (first | ((with_reducible refine gate_dst (N := 3) rfl ?_); refine box_event ?hg (N := 3) ?hd (cs := #[.int .i64 kd, .string tt, .string an, .slice A kids.length c]) (t := 29) ?hr ?_; (case hd => rfl); (case hg => rfl); (case hr => first | (go_simp; done) | (go_simp; rfl)); intro tb ht w1 htb hb1; have HX1 := Lib.hid (Pw.mk (w0 := w0) (W := W) (bld_below HBL.out hb1) htb (HB.out.trans (hb1.mono HB.out.size)) (kept_ hb1) ⟨hcb, hbs, by rw [ht]; exact Nat.le_refl _, hb1.size⟩); clear htb hb1 ht; obtain ⟨x0, x1, x2, x3⟩ := HX1.out.cells) | (go_at_call 64; refine (scalar_int' kd HK3.out tt an A kids.length c true _).mono ?_; rintro e w2 ⟨rfl, hb2⟩; have HX2 := Lib.hid (HX1.out.below hb2); clear hb2 x0 x1 x2 x3) | (go_at_call 63; refine (HX2.out.text _ hl2).mono ?_; rintro e w3 ⟨n3, rfl, hX3, _⟩; have HX3 := Lib.hid hX3; clear hX3))
   (try simp only [Exit.inBlock, Exit.then])
   refine bodyPost_ret (results_none rfl _ _ _) rfl ?_
   refine ⟨rfl, ?_, HX3.out.bel, HX3.out.kp, HX3.out.lt.2.2.2⟩
   rw [← HX.out]
   exact HX3.out.bld
  rw [if_neg c3] at h
  by_cases c5 : kd = 5
  rotate_left
  · rw [if_neg c5] at h; cases h
  rw [if_pos c5] at h
  by_cases ha : an.toList = []
  · rw [if_pos ha] at h; cases h
  rw [if_neg ha] at h
  obtain ⟨y, hy1, hy2⟩ := Option.map_eq_some_iff.1 h
  have HY := Lib.hid hy1
  have HX := Lib.hid hy2
  have p4 : (an.toList = []) = False := eq_false ha
  have q4 : (an.toList != []) = true := bne_iff_ne.2 ha
  have t6 : an.toList.isEmpty = false := by rw [← Bool.not_eq_true, List.isEmpty_iff]; exact ha
  have q5 : (kd == 5) = true := beq_iff_eq.2 c5
  have q6 : (kd == 6) = false := beq_eq_false_iff_ne.2 (by omega)
  have hadd1 : ∀ W : World, (Op.stringOp .add ⟨#[38]⟩ an).run Tryz.prog W = .ok (.string (⟨#[38]⟩ ++ an)) W := fun W => run_string_add_sum W _ _ (by rw [show (⟨#[38]⟩ : ByteArray).size = 1 from rfl]; omega)
  have hadd2 : ∀ W : World, (Op.stringOp .add (⟨#[38]⟩ ++ an) ⟨#[32]⟩).run Tryz.prog W = .ok (.string ((⟨#[38]⟩ ++ an) ++ ⟨#[32]⟩)) W := fun W => run_string_add_sum W _ _ (by rw [ByteArray.size_append, show (⟨#[38]⟩ : ByteArray).size = 1 from rfl, show (⟨#[32]⟩ : ByteArray).size = 1 from rfl]; omega)
  have han : an.data.toList.length = an.size := (size_list an).symm
  have hll : l.length + (an.size + 3 + y.length + 1) ≤ 70368744177664 := by
   rw [← hy2] at hlen
   simp only [List.length_append, List.length_cons, List.length_nil] at hlen
   omega
  have hl2 : l.length + ((⟨#[38]⟩ ++ an) ++ ⟨#[32]⟩ : ByteArray).size ≤ 70368744177664 := by
   rw [ByteArray.size_append, ByteArray.size_append, show (⟨#[38]⟩ : ByteArray).size = 1 from rfl, show (⟨#[32]⟩ : ByteArray).size = 1 from rfl]
   omega
  have hl3 : (l ++ ((⟨#[38]⟩ ++ an) ++ ⟨#[32]⟩ : ByteArray).data.toList).length = l.length + an.size + 2 := by
   rw [add_list, add_list]
   simp only [List.length_append, han]
   rw [show (⟨#[38]⟩ : ByteArray).data.toList.length = 1 from rfl, show (⟨#[32]⟩ : ByteArray).data.toList.length = 1 from rfl]
   omega
  have HL0 : Hid ((l ++ ((⟨#[38]⟩ ++ an) ++ ⟨#[32]⟩ : ByteArray).data.toList) ++ [91] = l ++ (38 :: (an.data.toList ++ [32])) ++ [91]) := Lib.hid (by rw [add_list, add_list]; simp)
  clear h hy1 hy2 c5 ha c7 c3
  go_enter Tryz.func43, Tryz.ntmps43
  go_wp2_with (first | ((with_reducible refine gate_dst (N := 3) rfl ?_); refine box_event ?hg (N := 3) ?hd (cs := #[.int .i64 kd, .string tt, .string an, .slice A kids.length c]) (t := 29) ?hr ?_; (case hd => rfl); (case hg => rfl); (case hr => first | (go_simp; done) | (go_simp; rfl)); intro tb ht w1 htb hb1; have HX1 := Lib.hid (Pw.mk (w0 := w0) (W := W) (bld_below HBL.out hb1) htb (HB.out.trans (hb1.mono HB.out.size)) (kept_ hb1) ⟨hcb, hbs, by rw [ht]; exact Nat.le_refl _, hb1.size⟩); clear htb hb1 ht; obtain ⟨x0, x1, x2, x3⟩ := HX1.out.cells) | (go_at_call 63; refine (HX1.out.text _ hl2).mono ?_; rintro e w3 ⟨n3, rfl, hX3, _⟩; have HX3 := Lib.hid hX3; clear hX3 x0 x1 x2 x3; obtain ⟨x0, x1, x2, x3⟩ := HX3.out.cells) | (go_at_call 65; refine (HX3.out.byte 91 (by omega)).mono ?_; rintro e w4 ⟨rfl, hX4⟩; have HX4 := Lib.hid hX4; clear hX4 x0 x1 x2 x3; obtain ⟨x0, x1, x2, x3⟩ := HX4.out.cells))
  clear x0 x1 x2 x3
  clear HX1 HX3 HS1 hadd1 hadd2 HB HBL
  obtain ⟨L0, hL0⟩ : ∃ L, (l ++ ((⟨#[38]⟩ ++ an) ++ ⟨#[32]⟩ : ByteArray).data.toList) ++ [91] = L := ⟨_, rfl⟩
  have HLL : Hid (L0 = l ++ (38 :: (an.data.toList ++ [32])) ++ [91]) := Lib.hid (by rw [← hL0]; exact HL0.out)
  have hLn : L0.length = l.length + an.size + 3 := by rw [← hL0, List.length_append, hl3]; rfl
  rw [hL0] at HX4
  clear hL0 HL0
  go_loopw [41] (fun v wr => ∃ (j : Nat) (acc y2 : List UInt8), v = .int .i64 j ∧ j ≤ kids.length ∧ Hid (putsT (putT K) j (kids.drop j) = some y2) ∧ Hid (acc ++ y2 = L0 ++ y) ∧ Hid (Pw w0 W b tb kd tt an (.slice A kids.length c) acc wr)) (fun v _ => kids.length - (intOf v).toNat)
  case atStart => exact ⟨0, L0, y, rfl, by omega, HY, Lib.hid rfl, HX4⟩
  case round =>
   clear HX4 HY
   obtain ⟨j, acc, y2, rfl, hj, HYR, HAR, HXR⟩ := hrel
   obtain ⟨x0, x1, x2, x3⟩ := HXR.out.cells
   have hal : acc.length + y2.length = L0.length + y.length := by rw [← List.length_append, HAR.out, List.length_append]
   by_cases hlj : j < kids.length
   rotate_left
   ·
    have hc1 : decide ((j : Int) < (kids.length : Int)) = false := decide_eq_false (by omega)
    have hst := HYR.out
    rw [List.drop_of_length_le (by omega), putsT] at hst
    have hy0 := Option.some.inj hst
    subst hy0
    have HE : Hid (acc = L0 ++ y) := Lib.hid (by have h := HAR.out; rw [List.append_nil] at h; exact h)
    clear hst HYR HAR
    go_wp2_with (first | (go_at_call 65; refine (HXR.out.byte 93 (by simp only [List.length_nil] at hal; omega)).mono ?_; rintro e w11 ⟨rfl, hX11⟩; have HX11 := Lib.hid hX11; clear hX11))
    go_end0
    refine ⟨rfl, ?_, HX11.out.bel, HX11.out.kp, HX11.out.lt.2.2.2⟩
    have hb3 := HX11.out.bld
    rw [HE.out, HLL.out] at hb3
    rw [← HX.out]
    have e : l ++ (38 :: (an.data.toList ++ [32])) ++ [91] ++ y ++ [93] = l ++ ((38 :: (an.data.toList ++ [32])) ++ (91 :: (y ++ [93]))) := by simp
    rw [e] at hb3
    exact hb3
   have hc1 : decide ((j : Int) < (kids.length : Int)) = true := decide_eq_true (by omega)
   obtain ⟨bd, A3, c3, eA, y0, y1, yy, y3, hc3, hC3⟩ := at_T29 HR.out (j : Int) (by omega) (by omega)
   subst eA
   have y0 := (HXR.out.bel.cell (World.block_lt_of_cell? w0 _ y0)).trans y0
   have y1 := (HXR.out.bel.cell (World.block_lt_of_cell? w0 _ y1)).trans y1
   have yy := (HXR.out.bel.cell (World.block_lt_of_cell? w0 _ yy)).trans yy
   have y3 := (HXR.out.bel.cell (World.block_lt_of_cell? w0 _ y3)).trans y3
   have hst := HYR.out
   rw [List.drop_eq_getElem_cons hlj, ← rdT_nth kids j hlj, putsT] at hst
   rw [Int.toNat_natCast] at y0 y1 yy y3
   generalize rd_T29 kids (j : Int) = k at *
   obtain ⟨kk, kt, ka, kkids⟩ := k
   dsimp only at y0 y1 yy y3 hc3 hC3
   split at hst
   case h_2 => cases hst
   rename_i x2_ y4 hq1 hq2
   have hst2 := Option.some.inj hst
   have HQ := Lib.hid hq1
   have HY4 := Lib.hid hq2
   have HLJ := Lib.hid hlj
   have HC3 := Lib.hid hC3
   have p6 : (0 ≤ (j : Int)) = True := eq_true (by omega)
   have p7 : ((j : Int) < (kids.length : Int)) = True := eq_true (by omega)
   have HX8 := Lib.hid (HXR.out.below (below_alloc (Below.refl _ _) (.cells #[.int .i64 kk, .string kt, .string ka, .slice A3 kkids.length c3] 29)))
   have HKB := Lib.hid (blk_new wr (.cells #[.int .i64 kk, .string kt, .string ka, .slice A3 kkids.length c3] 29))
   obtain ⟨z0, z1, z2, z3⟩ := HX8.out.cells
   have u0 := (blk_cell HKB.out 0).trans rfl
   have u1 := (blk_cell HKB.out 1).trans rfl
   have u2 := (blk_cell HKB.out 2).trans rfl
   have u3 := (blk_cell HKB.out 3).trans rfl
   clear hC3 HYR hq1 hq2 hst
   by_cases hj0 : j = 0
   ·
    have r8 : decide ((j : Int) > 0) = false := decide_eq_false (by omega)
    have r9 : decide (0 < j) = false := decide_eq_false (by omega)
    have r10 : (0 < j) = False := eq_false (by omega)
    have r11 : decide ((0 : Int) < (j : Int)) = false := decide_eq_false (by omega)
    rw [if_pos hj0, List.nil_append] at hst2
    have hle : y2.length = x2_.length + y4.length := by rw [← hst2, List.length_append]
    have HA2 : Hid ((acc ++ x2_) ++ y4 = L0 ++ y) := Lib.hid (by rw [List.append_assoc, hst2]; exact HAR.out)
    clear hst2 HAR hj0
    go_wp2_with (first | (go_at_call 43; refine (IH.out ⟨kk, kt, ka, kkids⟩ acc x2_ _ A3 c3 HC3.out hc3 HX8.out.bel HX8.out.bld (by have := HX8.out.lt; omega) HQ.out (by omega)).mono ?_; rintro e w10 ⟨rfl, hb10, hbe10, hkp10, hs10⟩; have HXA := Lib.hid (HX8.out.call hb10 hbe10 hkp10 hs10); clear hb10 hbe10 hkp10 hs10))
    go_roundw
    case rel => exact ⟨j + 1, acc ++ x2_, y4, by go_num, HLJ.out, HY4, HA2, HXA⟩
    case measure => have := HLJ.out; simp [intOf]; omega
   have r8 : decide ((j : Int) > 0) = true := decide_eq_true (by omega)
   have r9 : decide (0 < j) = true := decide_eq_true (by omega)
   have r10 : (0 < j) = True := eq_true (by omega)
   have r11 : decide ((0 : Int) < (j : Int)) = true := decide_eq_true (by omega)
   rw [if_neg hj0] at hst2
   have hle : y2.length = 2 + (x2_.length + y4.length) := by rw [← hst2, List.length_append, List.length_append]; rfl
   have HA2 : Hid (((acc ++ (⟨#[44, 32]⟩ : ByteArray).data.toList) ++ x2_) ++ y4 = L0 ++ y) := Lib.hid (by rw [List.append_assoc, List.append_assoc, ← HAR.out, ← hst2])
   clear hst2 HAR hj0
   go_wp2_with (first | (go_at_call 63; refine (HX8.out.text ⟨#[44, 32]⟩ (by rw [show (⟨#[44, 32]⟩ : ByteArray).size = 2 from rfl]; omega)).mono ?_; rintro e w9 ⟨n9, rfl, hX9, hkp9⟩; have HX9 := Lib.hid hX9; have hk9 := hkp9 _ _ HKB.out (fun e => by have := Option.some.inj e; have := HXR.out.lt; omega) (fun c fz e => by injection e with e1 e2; exact absurd e2 (by decide)); clear hX9 hkp9 u0 u1 u2 u3 z0 z1 z2 z3; have u0 := (blk_cell hk9 0).trans rfl; have u1 := (blk_cell hk9 1).trans rfl; have u2 := (blk_cell hk9 2).trans rfl; have u3 := (blk_cell hk9 3).trans rfl; clear hk9) | (go_at_call 43; refine (IH.out ⟨kk, kt, ka, kkids⟩ _ x2_ _ A3 c3 HC3.out hc3 HX9.out.bel HX9.out.bld (by have := HX9.out.lt; omega) HQ.out (by rw [List.length_append, show (⟨#[44, 32]⟩ : ByteArray).data.toList.length = 2 from rfl]; omega)).mono ?_; rintro e w10 ⟨rfl, hb10, hbe10, hkp10, hs10⟩; have HXA := Lib.hid (HX9.out.call hb10 hbe10 hkp10 hs10); clear hb10 hbe10 hkp10 hs10))
   go_roundw
   case rel => exact ⟨j + 1, _, y4, by go_num, HLJ.out, HY4, HA2, HXA⟩
   case measure => have := HLJ.out; simp [intOf]; omega
def flow_Write.f (a0 : Int) (a1 a2 : ByteArray) (l3 : List S29) : Option (ByteArray × Int) :=
 match flow_Right.f a0 a1 a2 l3, putT 66 ⟨a0, a1, a2, l3⟩ with
 | some true, some x => if x.length ≤ 70368744177664 then some (⟨x.toArray⟩, 0) else none
 | _, _ => none
set_option maxHeartbeats 8000000 in
set_option maxRecDepth 100000 in
theorem flow_Write.calls (a0 : Int) (a1 a2 : ByteArray) (A3 : Option Addr) (c3 : Nat) (l3 : List S29) (r1 : ByteArray) (r2 : Int) (w : World) (hr : Kd.C k29 w A3 l3.length l3) (hc : l3.length ≤ c3) (hG : Glob.G w) (h : flow_Write.f a0 a1 a2 l3 = some (r1, r2)) :
  Calls Tryz.prog 27 #[.agg #[.int .i64 a0, .string a1, .string a2, .slice A3 l3.length c3]] w fun e w' => e = .returned (.tuple #[.string r1, .int .i64 r2]) ∧ Below w.heap.size w w' := by
 unfold flow_Write.f at h
 have HR := Lib.hid hr
 clear hr
 split at h
 ·
  rename_i x hrt hp
  by_cases hl : x.length ≤ 70368744177664
  rotate_left
  · rw [if_neg hl] at h; cases h
  rw [if_pos hl] at h
  have HF := Lib.hid (show r1 = ⟨x.toArray⟩ ∧ r2 = 0 from ⟨(Prod.mk.inj (Option.some.inj h)).1.symm, (Prod.mk.inj (Option.some.inj h)).2.symm⟩)
  have HRT := Lib.hid hrt
  have HP := Lib.hid hp
  have HL := Lib.hid hl
  clear h hrt hp hl
  go_enter Tryz.func27, Tryz.ntmps27
  go_wp2_with (first | ((with_reducible refine gate_dst (N := 1) rfl ?_); refine box_event ?hg (N := 1) ?hd (cs := #[.int .i64 a0, .string a1, .string a2, .slice A3 l3.length c3]) (t := 29) ?hr ?_; (case hd => rfl); (case hg => rfl); (case hr => first | (go_simp; done) | (go_simp; rfl)); intro tb ht w1 htb hb1; have HTB := Lib.hid htb; have HB1 := Lib.hid hb1; clear htb hb1 ht; have x0 := (blk_cell HTB.out 0).trans rfl; have x1 := (blk_cell HTB.out 1).trans rfl; have x2 := (blk_cell HTB.out 2).trans rfl; have x3 := (blk_cell HTB.out 3).trans rfl) | (go_at_call 24; refine (flow_Right.calls a0 a1 a2 A3 c3 l3 true _ (Kd.C_below HR.out HB1.out) hc (hG.below HB1.out) HRT.out).mono ?_; rintro e w2 ⟨rfl, hb2⟩; have HB2 := Lib.hid (HB1.out.trans (hb2.mono HB1.out.size)); have HT2 := Lib.hid ((hb2.block tb (blk_lt HTB.out)).trans HTB.out); clear hb2 x0 x1 x2 x3; have ht3 := (Lib.alloc_old w2 (.cells #[.pointer none, .slice none 0 0] 99) tb (blk_lt HT2.out)).trans HT2.out; have x0 := (blk_cell ht3 0).trans rfl; have x1 := (blk_cell ht3 1).trans rfl; have x2 := (blk_cell ht3 2).trans rfl; have x3 := (blk_cell ht3 3).trans rfl; clear ht3) | (go_at_call 43; refine (put_is w w2.heap.size HB2.out.size 66 ⟨a0, a1, a2, l3⟩ [] x _ A3 c3 HR.out hc (below_alloc HB2.out _) (Lib.IsBuilderF.of (Lib.fresh_isBuilder 99 5 w2)) (by simp) HP.out (by simpa using HL.out)).mono ?_; rintro e w3 ⟨rfl, hbl, hb3, _, hs3⟩; have HBL := Lib.hid hbl; have HB3 := Lib.hid hb3; have hs3 : w2.heap.size < w3.heap.size := Nat.lt_of_lt_of_le (by simp) hs3; clear hbl hb3 x0 x1 x2 x3) | (go_at_call 44; refine (Bld.got 99 w2.heap.size w2.heap.size x w3 (by simpa using HBL.out) (by omega)).mono ?_; rintro e w4 ⟨rfl, hb4⟩; have HB4 := Lib.hid (HB3.out.trans (hb4.mono HB2.out.size)); clear hb4))
  go_ret2
  exact ⟨by rw [HF.out.1, HF.out.2]; first | done | rfl, HB4.out⟩
 · cases h
end Go.Proofs.YtnjcpoojgmpmeaaGreatDoor.Plug
namespace Go.Proofs.YtnjcpoojgmpmeaaGreatDoor.PX
open RowKit YtnjcpoojgmpmeaaGreatDoorW.PrintWords YtnjcpoojgmpmeaaGreatDoorW.PrintLast YtnjcpoojgmpmeaaGreatDoorW.PrintMore YtnjcpoojgmpmeaaGreatDoor YtnjcpoojgmpmeaaGreatDoor.Plug
attribute [local go_sem] max2_int min2_int max_two min_two max_three min_three max_four min_four   -- for this text's walks alone
set_option linter.unusedVariables false
set_option linter.unusedSimpArgs false
attribute [local go_sem high] eqA143
def graph_isText.j0 : Nat → Int → ByteArray → Int → Bool → Option (Bool)
  | 0, _, _, _, _ => none
  | k + 1, x0, x1, x7, x8 => if x8 = true then ((plain_Resolve.f x1).bind fun t101 => (some (t101 == x0))) else (if x7 = 4 then ((utf_Decode.f x1).bind fun bt102 => (some (bt102.2.1 == 0 && (bt102.2.2 == 0)))) else (some (x1.toList == ([] : List UInt8))))
def graph_isText.f (k : Nat) (a0 : Int) (a1 : ByteArray) : Option (Bool) := if a0 = 2 then (graph_isText.j0 k a0 a1 a0 (a0 == 2)) else (graph_isText.j0 k a0 a1 a0 (a0 == 3))
theorem qqa0_ {P : Prop} (h_ : P := by repeat (first | (with_reducible first | exact HB.out | apply below_alloc | apply pw_below_drewN | apply below_drew1) | exact HB.out)) : P := h_
theorem qqa1_ {P : Prop} (h_ : P := by first | ((repeat (first | (with_reducible first | exact HB.out | apply below_alloc | apply pw_below_drewN | apply below_drew1 | (refine Glob.below_set ?_ (by assumption) _ _ _)) | exact HB.out)); done) | (refine Drawn0.below ?_; repeat (first | exact Drawn0.refl _ | assumption | apply Drawn0.step))) : P := h_
theorem qqa2_ {P : Prop} (h_ : P := by first | rfl | (simp [errW_none, errW_some] <;> rfl) | (simp [*, errW_none, errW_some] <;> rfl)) : P := h_
theorem qqa3_ {P : Prop} (h_ : P := by (try simp only [List.map_toArray, List.map_cons, List.map_nil]); first | done | rfl | (simp only [List.length_drop, List.length_take]; rfl)) : P := h_
set_option maxHeartbeats 8000000 in
set_option maxRecDepth 100000 in
theorem graph_isText.calls (k : Nat) (a0 : Int) (a1 : ByteArray) (r : Bool) (w : World) (hG : Glob.G w) (h : graph_isText.f k a0 a1 = some r) :
  Calls Tryz.prog 70 #[.int .i64 a0, .string a1] w fun e w' => e = .returned (.bool r) ∧ Below w.heap.size w w' := by
 have hu143 := Tryz.underlying143
 have HB := Aside0.mk (Below.refl w.heap.size w)
 have H : (if a0 = 2 then (graph_isText.j0 k a0 a1 a0 (a0 == 2)) else (graph_isText.j0 k a0 a1 a0 (a0 == 3))) = some r := h
 clear h
 have HC3 := Aside0.mk H
 clear H
 go_enter Tryz.func70, Tryz.ntmps70
 go_upto_if 8 with (fail)
 go_cut [8] (fun v8 wc => ∃ (kq : Nat) (x8_2 : Bool), v8 = .bool x8_2 ∧ Aside0 (graph_isText.j0 kq a0 a1 a0 x8_2 = some r) ∧ Aside0 (kq ≤ k) ∧ Aside0 (Below w.heap.size w wc))
 case first =>
  have H := HC3.out
  clear HC3
  by_cases c4 : a0 = 2
  rotate_left
  ·
   rw [if_neg c4] at H
   have c4b0 : (a0 == 2) = false := beq_eq_false_iff_ne.mpr c4
   have c4b1 : (a0 != 2) = true := bne_iff_ne.mpr c4
   (first | rw [c4b0] | (simp only [i64_w, i32_w]; rw [c4b0]) | skip)
   have H' := Aside0.mk H
   clear H
   go_wp2
   go_meet
   case rel => exact ⟨_, ((a0 == 3)), (by first | rfl | (simp; done) | (simp [*]; done)), H', ⟨by first | omega | exact Nat.le_refl _⟩, ⟨qqa0_⟩⟩
  rw [if_pos c4] at H
  have c4b0 : (a0 == 2) = true := beq_iff_eq.mpr c4
  have c4b1 : (a0 != 2) = false := bne_eq_false_iff_eq.mpr c4
  clear c4
  (first | rw [c4b0] | (simp only [i64_w, i32_w]; rw [c4b0]) | skip)
  have H' := Aside0.mk H
  clear H
  go_wp2
  go_meet
  case rel => exact ⟨_, ((a0 == 2)), (by first | rfl | (simp; done) | (simp [*]; done)), H', ⟨by first | omega | exact Nat.le_refl _⟩, ⟨qqa0_⟩⟩
 case rest =>
  clear HC3
  try clear p2
  try clear c4
  try clear c4b0
  try clear c4b1
  obtain ⟨kq, x8_2, rfl, HA, HJ2, HB⟩ := hcut
  cases kq with
  | zero => exact absurd HA.out (by simp [graph_isText.j0])
  | succ kj2 =>
   have H := HA.out
   clear HA
   simp only [graph_isText.j0] at H
   by_cases c5 : x8_2 = true
   ·
    subst c5
    have H1 : ((plain_Resolve.f a1).bind fun t101 => (some (t101 == a0))) = some r := by rw [if_pos rfl] at H; exact H
    clear H
    have H := H1
    clear H1
    replace H := Option.bind_eq_some_iff.mp H
    obtain ⟨t101, A60, H⟩ := H
    replace H : (some (t101 == a0)) = some r := H
    have A6 := Aside0.mk A60
    clear A60
    obtain rfl := Option.some.inj H
    go_wp2_with (first | ((with_reducible refine gate_callee (f := 76) rfl ?_); refine goesL_ (some 12) rfl rfl Tryz.func76 (by kernel_rfl) rfl #[.string a1] rfl (qqa3_) ?_; (with_reducible refine (plain_Resolve.calls a1 t101 _ (hG.below (qqa1_)) A6.out).mono ?_); rintro e w7 ⟨rfl, hb⟩; refine ⟨_, rfl, ?_⟩; have n0_ := Aside0.mk (below_step (qqa0_) hb); clear HB; have HB := n0_; clear n0_; (try clear hb)))
    go_ret
    exact ⟨qqa2_, qqa0_⟩
   replace c5 := Bool.eq_false_iff.mpr c5
   subst c5
   have H1 : (if a0 = 4 then ((utf_Decode.f a1).bind fun bt102 => (some (bt102.2.1 == 0 && (bt102.2.2 == 0)))) else (some (a1.toList == ([] : List UInt8)))) = some r := by rw [if_neg (show ¬ (false = true) by decide)] at H; exact H
   clear H
   have H := H1
   clear H1
   by_cases c8 : a0 = 4
   rotate_left
   ·
    rw [if_neg c8] at H
    have c8b0 : (a0 == 4) = false := beq_eq_false_iff_ne.mpr c8
    have c8b1 : (a0 != 4) = true := bne_iff_ne.mpr c8
    obtain rfl := Option.some.inj H
    go_wp2
    go_ret
    exact ⟨qqa2_, qqa0_⟩
   rw [if_pos c8] at H
   have c8b0 : (a0 == 4) = true := beq_iff_eq.mpr c8
   have c8b1 : (a0 != 4) = false := bne_eq_false_iff_eq.mpr c8
   clear c8
   replace H := Option.bind_eq_some_iff.mp H
   obtain ⟨⟨t102, t105, t106⟩, A90, H⟩ := H
   replace H : (some (t105 == 0 && (t106 == 0))) = some r := H
   have A9 := Aside0.mk A90
   clear A90
   obtain rfl := Option.some.inj H
   go_wp2_with (first | ((with_reducible refine gate_callee (f := 77) rfl ?_); refine goesL_ (some 19) rfl rfl Tryz.func77 (by kernel_rfl) rfl #[.string a1] rfl (qqa3_) ?_; (with_reducible refine (utf_Decode.calls a1 t102 t105 t106 _ (hG.below (qqa1_)) A9.out).mono ?_); rintro e w10 ⟨v103, rfl, ho0, hb⟩; refine ⟨_, rfl, ?_⟩; have n0_ := Aside0.mk (Kd.R_lower ho0 (below_size (qqa0_))); have n1_ := Aside0.mk (below_step (qqa0_) hb); clear HB; have HO104 := n0_; have HB := n1_; clear n0_ n1_; (try clear hb); (try clear ho0)) | ((with_reducible refine gate_dst (N := 6) rfl ?_); refine box_event ?hg (N := 6) ?hd (cs := #[.int .i64 0, .int .i64 0]) (t := 143) ?hr ?_; (case hd => rfl); (case hg => rfl); (case hr => first | (go_simp; done) | (go_simp; rfl)); intro gb107 hg w11 hbox hb; have n0_ := Aside0.mk (Kd.R_below (by (with_reducible repeat (first | apply Kd.R_alloc | apply Kd.R_drewN | apply Kd.R_drew)); exact HO104.out) hb); have n1_ := Aside0.mk (below_step (qqa0_) hb); have n2_ := Aside0.mk (hbox); have n3_ := Aside0.mk ((by rw [hg]; exact (below_size (qqa0_)) : w.heap.size ≤ gb107)); have n4_ := Aside0.mk ((by rw [hg]; exact (below_size (qqa0_)) : w.heap.size ≤ gb107)); clear HO104; clear HB; have HO104 := n0_; have HB := n1_; have BK107 := n2_; have GW107 := n3_; have GE107 := n4_; clear n0_ n1_ n2_ n3_ n4_; clear hb hbox hg; have hcz12_0 : w11.cell? ⟨gb107, 0, none⟩ = some (.int .i64 0) := (blk_cell BK107.out 0).trans rfl; have hcz12_1 : w11.cell? ⟨gb107, 1, none⟩ = some (.int .i64 0) := (blk_cell BK107.out 1).trans rfl; have hfz12_0 := blk_frozen BK107.out 0; have hfz12_1 := blk_frozen BK107.out 1))
   go_ret
   exact ⟨qqa2_, by repeat (first | (with_reducible first | exact HB.out | apply below_alloc | apply pw_below_drewN | apply below_drew1 | refine below_set ?_ GE107.out) | exact HB.out)⟩
end Go.Proofs.YtnjcpoojgmpmeaaGreatDoor.PX
namespace Go.Proofs.YtnjcpoojgmpmeaaGreatDoor.PX
open RowKit YtnjcpoojgmpmeaaGreatDoorW.PrintWords YtnjcpoojgmpmeaaGreatDoorW.PrintLast YtnjcpoojgmpmeaaGreatDoorW.PrintMore YtnjcpoojgmpmeaaGreatDoor
attribute [local go_sem] max2_int min2_int max_two min_two max_three min_three max_four min_four   -- for this text's walks alone
set_option linter.unusedVariables false
set_option linter.unusedSimpArgs false
def graph_isScalar.f (a0 : Int) : Option (Bool) := if a0 ≥ 1 then (some (decide (a0 ≤ 4))) else (some false)
theorem qra0_ {P : Prop} (h_ : P := by first | rfl | (simp; done) | (simp [*]; done) | (simp; generalize ByteArray.toList _ = l_; cases l_ <;> rfl)) : P := h_
set_option maxHeartbeats 8000000 in
set_option maxRecDepth 100000 in
theorem graph_isScalar.calls (a0 : Int) (r : Bool) (w : World) (hG : Glob.G w) (h : graph_isScalar.f a0 = some r) :
  Calls Tryz.prog 71 #[.int .i64 a0] w fun e w' => e = .returned (.bool r) ∧ Drawn0 w w' := by
 have H : (if a0 ≥ 1 then (some (decide (a0 ≤ 4))) else (some false)) = some r := h
 clear h
 by_cases c2 : a0 ≥ 1
 ·
  rw [if_pos c2] at H
  have c2b0 : decide (1 ≤ a0) = true := decide_eq_true c2
  clear c2
  obtain rfl := Option.some.inj H
  go_enter Tryz.func71, Tryz.ntmps71
  go_wp2
  go_ret
  exact ⟨qra0_, by repeat (first | exact Drawn0.refl _ | apply Drawn0.step)⟩
 rw [if_neg c2] at H
 have c2b0 : decide (1 ≤ a0) = false := decide_eq_false c2
 clear c2
 obtain rfl := Option.some.inj H
 go_enter Tryz.func71, Tryz.ntmps71
 go_wp2
 go_ret
 exact ⟨qra0_, by repeat (first | exact Drawn0.refl _ | apply Drawn0.step)⟩
def graph_keys.l0 : Nat → List Int → Int → Int → ByteArray → List Int → Option (List Int)
  | 0, _, _, _, _, _ => none
  | k + 1, x3, x4, x102000, x102001, x102002 => if (wrap64 (x4 + 1)) < (x102002.length : Int) then (if 0 ≤ x4 then (if x4 < (x102002.length : Int) then (if x3.length < 17592186044416 then (graph_keys.l0 k (x3 ++ [rd x102002 x4]) (wrap64 (x4 + 2)) x102000 x102001 x102002) else (none)) else (none)) else (none)) else (some x3)
def graph_keys.f (k : Nat) (a0_0 : Int) (a0_1 : ByteArray) (l0_2 : List Int) : Option (List Int) := if a0_0 = 6 then (graph_keys.l0 k ([] : List Int) 0 a0_0 a0_1 l0_2) else (some ([] : List Int))
theorem qsa0_ {P : Prop} (h_ : P := by repeat (first | (with_reducible first | exact HB.out | apply below_alloc | apply pw_below_drewN | apply below_drew1 | refine below_set ?_ GE101.out) | exact HB.out)) : P := h_
theorem qsa1_ {P : Prop} (h_ : P := by repeat (first | (with_reducible first | exact HB.out | apply below_alloc | apply pw_below_drewN | apply below_drew1) | exact HB.out)) : P := h_
theorem qsa2_ {P : Prop} (h_ : P := by (with_reducible repeat (first | refine blk_drewN ?_ _ | refine blk_drew ?_ | refine blk_alloc ?_ _)); exact BK101.out) : P := h_
theorem qsa3_ {P : Prop} (h_ : P := by first | exact Kd.R_nil _ _ _ _ _ | exact Kd.N_nil _ _ _ _ _ | exact Kd.V_nil _ _ _ _ _ | exact Kd.Q_nil _ _ _ _ _ | exact Kd.S_nil _ _ _ _ _) : P := h_
set_option maxHeartbeats 8000000 in
set_option maxRecDepth 100000 in
theorem graph_keys.calls (k : Nat) (a0_0 : Int) (a0_1 : ByteArray) (A0_2 : Option Addr) (c0_2 : Nat) (l0_2 : List Int) (r : List Int) (w : World) (hr0_2 : Kd.C (Kd.int .i64) w A0_2 l0_2.length l0_2) (hc0_2 : l0_2.length ≤ c0_2) (hG : Glob.G w) (h : graph_keys.f k a0_0 a0_1 l0_2 = some r) :
  Calls Tryz.prog 52 #[.agg #[.int .i64 a0_0, .string a0_1, .slice A0_2 l0_2.length c0_2]] w fun e w' => ∃ v0_ : Value, e = .returned (v0_) ∧ Kd.R (Kd.int .i64) 3 w' w.heap.size (fun _ => True) v0_ r ∧ Below w.heap.size w w' := by
 have hu45 := Tryz.underlying45
 have HR0_2 := Aside0.mk hr0_2
 have HC0_2 := Aside0.mk hc0_2
 clear hr0_2 hc0_2
 have HB := Aside0.mk (Below.refl w.heap.size w)
 have H : (if a0_0 = 6 then (graph_keys.l0 k ([] : List Int) 0 a0_0 a0_1 l0_2) else (some ([] : List Int))) = some r := h
 clear h
 by_cases c2 : a0_0 = 6
 rotate_left
 ·
  rw [if_neg c2] at H
  have c2b0 : (a0_0 == 6) = false := beq_eq_false_iff_ne.mpr c2
  have c2b1 : (a0_0 != 6) = true := bne_iff_ne.mpr c2
  obtain rfl := Option.some.inj H
  go_enter Tryz.func52, Tryz.ntmps52
  go_wp2_with (first | ((with_reducible refine gate_dst (N := 1) rfl ?_); refine box_event ?hg (N := 1) ?hd (cs := #[.int .i64 a0_0, .string a0_1, .slice A0_2 l0_2.length c0_2]) (t := 45) ?hr ?_; (case hd => rfl); (case hg => rfl); (case hr => first | (go_simp; done) | (go_simp; rfl)); intro gb101 hg w12 hbox hb; have n0_ := Aside0.mk (below_step (qsa1_) hb); have n1_ := Aside0.mk (hbox); have n2_ := Aside0.mk ((by rw [hg]; exact (below_size (qsa1_)) : w.heap.size ≤ gb101)); have n3_ := Aside0.mk ((by rw [hg]; exact (below_size (qsa1_)) : w.heap.size ≤ gb101)); clear HB; have HB := n0_; have BK101 := n1_; have GW101 := n2_; have GE101 := n3_; clear n0_ n1_ n2_ n3_; clear hb hbox hg; have hcz13_0 : w12.cell? ⟨gb101, 0, none⟩ = some (.int .i64 a0_0) := (blk_cell BK101.out 0).trans rfl; have hcz13_1 : w12.cell? ⟨gb101, 1, none⟩ = some (.string a0_1) := (blk_cell BK101.out 1).trans rfl; have hcz13_2 : w12.cell? ⟨gb101, 2, none⟩ = some (.slice A0_2 l0_2.length c0_2) := (blk_cell BK101.out 2).trans rfl; have hfz13_0 := blk_frozen BK101.out 0; have hfz13_1 := blk_frozen BK101.out 1; have hfz13_2 := blk_frozen BK101.out 2))
  go_ret
  exact ⟨_, by first | rfl | (simp [errW_none, errW_some] <;> rfl) | (simp [*, errW_none, errW_some] <;> rfl), qsa3_, qsa0_⟩
 rw [if_pos c2] at H
 have c2b0 : (a0_0 == 6) = true := beq_iff_eq.mpr c2
 have c2b1 : (a0_0 != 6) = false := bne_eq_false_iff_eq.mpr c2
 clear c2
 have H' := Aside0.mk H
 clear H
 go_enter Tryz.func52, Tryz.ntmps52
 go_wp2_with (first | ((with_reducible refine gate_dst (N := 1) rfl ?_); refine box_event ?hg (N := 1) ?hd (cs := #[.int .i64 a0_0, .string a0_1, .slice A0_2 l0_2.length c0_2]) (t := 45) ?hr ?_; (case hd => rfl); (case hg => rfl); (case hr => first | (go_simp; done) | (go_simp; rfl)); intro gb101 hg w3 hbox hb; have n0_ := Aside0.mk (below_step (qsa1_) hb); have n1_ := Aside0.mk (hbox); have n2_ := Aside0.mk ((by rw [hg]; exact (below_size (qsa1_)) : w.heap.size ≤ gb101)); have n3_ := Aside0.mk ((by rw [hg]; exact (below_size (qsa1_)) : w.heap.size ≤ gb101)); clear HB; have HB := n0_; have BK101 := n1_; have GW101 := n2_; have GE101 := n3_; clear n0_ n1_ n2_ n3_; clear hb hbox hg; have hcz4_0 : w3.cell? ⟨gb101, 0, none⟩ = some (.int .i64 a0_0) := (blk_cell BK101.out 0).trans rfl; have hcz4_1 : w3.cell? ⟨gb101, 1, none⟩ = some (.string a0_1) := (blk_cell BK101.out 1).trans rfl; have hcz4_2 : w3.cell? ⟨gb101, 2, none⟩ = some (.slice A0_2 l0_2.length c0_2) := (blk_cell BK101.out 2).trans rfl; have hfz4_0 := blk_frozen BK101.out 0; have hfz4_1 := blk_frozen BK101.out 1; have hfz4_2 := blk_frozen BK101.out 2))
 go_loopg [3, 4] k (fun kq v3 v4 w' => ∃ (x3_1 : List Int) (x4_1 : Int), v4 = .int .i64 x4_1 ∧ Aside0 (graph_keys.l0 kq x3_1 x4_1 a0_0 a0_1 l0_2 = some r) ∧ Aside0 (kq ≤ k) ∧ Aside0 (Kd.R (Kd.int .i64) 3 w' w.heap.size (fun _ => True) v3 x3_1) ∧ Aside0 (w'.heap[gb101]? = some (.cells #[.int .i64 a0_0, .string a0_1, (.slice A0_2 l0_2.length c0_2)] 45 (0, 0))) ∧ Aside0 (Below w.heap.size w w'))
 case atStart => exact ⟨(([] : List Int)), (0), (by first | rfl | (simp; done) | (simp [*]; done)), H', ⟨Nat.le_refl _⟩, ⟨qsa3_⟩, ⟨qsa2_⟩, ⟨qsa0_⟩⟩
 case round =>
  clear H'
  try clear c2
  try clear c2b0
  try clear c2b1
  try clear p2
  try clear hcz4_0
  try clear hcz4_1
  try clear hcz4_2
  try clear hfz4_0
  try clear hfz4_1
  try clear hfz4_2
  obtain ⟨x3_1, x4_1, rfl, HA, HK1, HO_3, BK101, HB⟩ := hrel
  cases gk with
  | zero => exact absurd HA.out (by simp [graph_keys.l0])
  | succ k1 =>
   have H := HA.out
   clear HA
   simp only [graph_keys.l0] at H
   by_cases c5 : (wrap64 (x4_1 + 1)) < (l0_2.length : Int)
   rotate_left
   ·
    rw [if_neg c5] at H
    have c5b0 : decide ((wrap64 (x4_1 + 1)) < (l0_2.length : Int)) = false := decide_eq_false c5
    clear c5
    obtain rfl := Option.some.inj H
    have hcz11_0 : wr.cell? ⟨gb101, 0, none⟩ = some (.int .i64 a0_0) := (blk_cell BK101.out 0).trans rfl
    have hcz11_1 : wr.cell? ⟨gb101, 1, none⟩ = some (.string a0_1) := (blk_cell BK101.out 1).trans rfl
    have hcz11_2 : wr.cell? ⟨gb101, 2, none⟩ = some (.slice A0_2 l0_2.length c0_2) := (blk_cell BK101.out 2).trans rfl
    have hfz11_0 := blk_frozen BK101.out 0
    have hfz11_1 := blk_frozen BK101.out 1
    have hfz11_2 := blk_frozen BK101.out 2
    go_wp2
    go_ret
    exact ⟨_, by first | rfl | (simp [errW_none, errW_some] <;> rfl) | (simp [*, errW_none, errW_some] <;> rfl), by (with_reducible repeat (first | apply Kd.R_alloc | apply Kd.R_drewN | apply Kd.R_drew)); exact HO_3.out, qsa0_⟩
   rw [if_pos c5] at H
   have c5b0 : decide ((wrap64 (x4_1 + 1)) < (l0_2.length : Int)) = true := decide_eq_true c5
   clear c5
   by_cases c6 : 0 ≤ x4_1
   rotate_left
   ·
    rw [if_neg c6] at H
    exact absurd H (by simp)
   rw [if_pos c6] at H
   have c6b0 : decide (0 ≤ x4_1) = true := decide_eq_true c6
   clear c6
   by_cases c7 : x4_1 < (l0_2.length : Int)
   rotate_left
   ·
    rw [if_neg c7] at H
    exact absurd H (by simp)
   rw [if_pos c7] at H
   have c7b0 : decide (x4_1 < (l0_2.length : Int)) = true := decide_eq_true c7
   clear c7
   by_cases c8 : x3_1.length < 17592186044416
   rotate_left
   ·
    rw [if_neg c8] at H
    exact absurd H (by simp)
   rw [if_pos c8] at H
   have LMc8 := Aside0.mk c8
   clear c8
   obtain ⟨y103, hy103⟩ : ∃ y_ : List Int, y_ = (x3_1 ++ [rd l0_2 x4_1]) := ⟨_, rfl⟩
   replace H : (graph_keys.l0 k1 y103 (wrap64 (x4_1 + 2)) a0_0 a0_1 l0_2) = some r := by first | (rw [hy103]; with_reducible exact H) | (have H2_ := (Option.bind_some _ _).symm.trans H; rw [hy103]; with_reducible exact H2_) | (have H2_ := (Option.bind_some _ _).symm.trans H; with_reducible exact H2_) | with_reducible exact H | (rw [hy103]; exact H) | exact H
   have Ny103 := Aside0.mk hy103
   clear hy103
   have H' := Aside0.mk H
   clear H
   have hcz9_0 : wr.cell? ⟨gb101, 0, none⟩ = some (.int .i64 a0_0) := (blk_cell BK101.out 0).trans rfl
   have hcz9_1 : wr.cell? ⟨gb101, 1, none⟩ = some (.string a0_1) := (blk_cell BK101.out 1).trans rfl
   have hcz9_2 : wr.cell? ⟨gb101, 2, none⟩ = some (.slice A0_2 l0_2.length c0_2) := (blk_cell BK101.out 2).trans rfl
   have hfz9_0 := blk_frozen BK101.out 0
   have hfz9_1 := blk_frozen BK101.out 1
   have hfz9_2 := blk_frozen BK101.out 2
   have p102 : 0 ≤ (x4_1 : Int) := of_decide_eq_true (by first | (with_reducible assumption) | assumption)
   have q102 : x4_1 < (l0_2.length : Int) := of_decide_eq_true (by first | (with_reducible assumption) | assumption)
   obtain ⟨ad102, e102, hx102_0⟩ := Kd.at_int HR0_2.out x4_1 p102 q102
   cases e102
   replace hx102_0 := (HB.out.cell (World.block_lt_of_cell? w _ hx102_0)).trans hx102_0
   replace p102 := eq_true p102
   replace q102 := eq_true q102
   go_wp2_with (first | ((with_reducible refine gate_builtin (b := .append) (xs := #[.tmp 16, .tmp 22]) rfl ?_); at_builtin; refine Kd.R_append (Kd.int .i64) (w0 := w) w.heap.size rfl (.tmp 16) (.tmp 22) 40 3 (.int .i64 0) 8 rfl Tryz.underlying40 info3 rfl (by decide) (by omega) u3 x3_1 (rd l0_2 x4_1) [.int .i64 (rd l0_2 x4_1)] (fun _ => True) (fun _ => False) rfl rfl ?aP (fun _ hk => hk.elim) ?aF ?aO ?aB ?aS ?aL ?_; (case aP => exact rfl); (case aB => exact (qsa0_)); (case aF => exact (fun _ _ => trivial)); (case aO => exact (by (with_reducible repeat (first | apply Kd.R_alloc | apply Kd.R_drewN | apply Kd.R_drew)); exact HO_3.out)); (case aS => exact (below_size (qsa0_))); (case aL => have := LMc8.out; omega); intro v104 w10 ho hb hg hat; rw [← Ny103.out] at ho; have n0_ := Aside0.mk (blk_grown (g := gb101) (o := .cells #[.int .i64 a0_0, .string a0_1, .slice (some ad102) l0_2.length c0_2] 45 (0, 0)) (qsa2_) hg (Kd.R_ne HO_3.out BK101.out (by decide))); have n1_ := Aside0.mk (hb); have n2_ := Aside0.mk (ho); clear BK101; clear HB; clear HO_3; have BK101 := n0_; have HB := n1_; have HO105 := n2_; clear n0_ n1_ n2_; clear ho hb hg hat))
   go_roundg k1
   case measure => have := HK1.out; omega
   case rel => exact ⟨(y103), (wrap64 (x4_1 + 2)), (by first | rfl | (simp; done) | (simp [*]; done)), H', ⟨by have := HK1.out; omega⟩, ⟨by (with_reducible repeat (first | apply Kd.R_alloc | apply Kd.R_drewN | apply Kd.R_drew)); exact HO105.out⟩, ⟨qsa2_⟩, ⟨qsa0_⟩⟩
end Go.Proofs.YtnjcpoojgmpmeaaGreatDoor.PX
namespace Go.Proofs.YtnjcpoojgmpmeaaGreatDoor.Mapk
open Go RowKit YtnjcpoojgmpmeaaGreatDoor YtnjcpoojgmpmeaaGreatDoorW.PrintWords Go.Maps
def hl (v : Value) : Option (DataW Value × List MemPlace) := some (.held v, [])
theorem hl_inv {v u : Value} {ps : List MemPlace} (h : hl v = some (.held u, ps)) : v = u := by
  simp only [hl, Option.some.injEq, Prod.mk.injEq, DataW.held.injEq] at h; exact h.1
section
variable {κ : Type} {en : κ → Value}
structure MapIs (P : Program) (k : TypeId) (en : κ → Value) (w : World) (b n : Nat) (F : κ → Option Value) : Prop where
 inj : ∀ x y, en x = en y → x = y
 ex : ∃ D : DataW Value, w.ownsMap P k hl b n D ∧ ∀ x kl, keyOf P k (en x) = some kl → has D kl = (F x).isSome ∧ ∀ z, D.atKey kl (.held z) = .held ((F x).getD z)
variable {P : Program} {k e t : TypeId} {w : World} {b n : Nat} {F : κ → Option Value}
theorem made (w : World) (P : Program) (k : TypeId) (hen : ∀ x y, en x = en y → x = y) : MapIs P k en (w.alloc (.map #[] 0)) w.heap.size 0 (fun _ => none) :=
  ⟨hen, _, World.ownsMap_made w P k hl, fun _ _ _ => ⟨rfl, fun _ => rfl⟩⟩
theorem MapIs.kept {w' : World} {row : Option Nat} (h : MapIs P k en w b n F) (hg : w.grownBy w' row) (hne : some b ≠ row) : MapIs P k en w' b n F := by
  obtain ⟨D, h1, h2⟩ := h.ex; exact ⟨h.inj, D, h1.kept hg hne, h2⟩
theorem MapIs.mono (h : MapIs P k en w b n F) {n' : Nat} (hn : n ≤ n') : MapIs P k en w b n' F := by
  obtain ⟨D, h1, h2⟩ := h.ex; exact ⟨h.inj, D, h1.mono hn, h2⟩
theorem MapIs.lt (h : MapIs P k en w b n F) : b < w.heap.size := by obtain ⟨D, h1, _⟩ := h.ex; exact h1.lt
theorem MapIs.of_block {w' : World} (h : MapIs P k en w b n F) (hb : w'.heap[b]? = w.heap[b]?) : MapIs P k en w' b n F := by
  obtain ⟨D, ⟨es, clock, h1, h3⟩, h2⟩ := h.ex; exact ⟨h.inj, D, ⟨es, clock, hb.trans h1, h3⟩, h2⟩
theorem MapIs.of_below {w' : World} (h : MapIs P k en w b n F) (hb : Below w.heap.size w w') : MapIs P k en w' b n F := h.of_block (hb.block b h.lt)
theorem MapIs.alloc (h : MapIs P k en w b n F) (o : Obj) : MapIs P k en (w.alloc o) b n F := h.of_block (Lib.alloc_old w o b h.lt)
theorem MapIs.look (h : MapIs P k en w b n F) (K : Keyed P k) (ht : P.underlying t = some (.map k e)) {z : Value} (hz : (zeroValue e).run P w = .ok z w) {key : κ} {kl : Lit} (hkey : keyOf P k (en key) = some kl) :
  (Instr.lookup t (.map (some b)) (en key) false).run P w = .ok ((F key).getD z) w := by
 obtain ⟨D, h1, h2⟩ := h.ex
 obtain ⟨v, ps, hr, hv⟩ := h1.lookup K ht hz (zd := .held z) (zp := []) rfl hkey
 rw [(h2 key kl hkey).2 z] at hv
 rw [hr, hl_inv hv]
theorem MapIs.put [DecidableEq κ] (h : MapIs P k en w b n F) (K : Keyed P k) (ht : P.underlying t = some (.map k e)) (hn : n < maxLen) {key : κ} {kl : Lit} (hkey : keyOf P k (en key) = some kl) (v : Value) :
  ∃ w', (Instr.mapUpdate t (.map (some b)) (en key) v).run P w = .ok () w' ∧ MapIs P k en w' b (n + 1) (fun y => if y = key then some v else F y) ∧ w.grownBy w' (some b) := by
 have h0 := h
 obtain ⟨D, h1, h2⟩ := h.ex
 obtain ⟨w', hr, h3, hg⟩ := h1.update K ht hn hkey (d := .held v) (ps := []) rfl
 refine ⟨w', hr, ⟨h.inj, _, h3, fun x kx hx => ?_⟩, hg⟩
 by_cases e1 : x = key
 ·
  subst e1
  have : kx = kl := Option.some.inj (hx.symm.trans hkey)
  subst this
  rw [if_pos rfl]
  exact ⟨has_put_same h1.isMap (K.key hkey) _, fun z => atKey_put_same h1.isMap (K.key hkey) _ _⟩
 rw [if_neg e1]
 have hne : kx ≠ kl := fun h => e1 (h0.inj _ _ (K.inj (h ▸ hx) hkey))
 exact ⟨(has_put_other hne _).trans (h2 x kx hx).1, fun z => (atKey_put_other hne _ _).trans ((h2 x kx hx).2 z)⟩
theorem wpList_look {w : World} {ops : Array Oper} {rest : List Oper} {o : Oper} {a : Act} {Q : Exit → Act → World → Prop}
  (hg : o.guard = none) (m x : Operand) (t : TypeId) (hop : o.op = Op.lookup t m x false) (k e : TypeId) (K : Keyed P k) (ht : P.underlying t = some (.map k e)) (z : Value) (hz : (zeroValue e).run P w = .ok z w)
  (b n : Nat) (F : κ → Option Value) (hm : a.eval m = .map (some b)) (h : MapIs P k en w b n F) (key : κ) (kl : Lit) (hx : a.eval x = en key) (hkey : keyOf P k (en key) = some kl)
  (hK : wpList P ops Q rest (a.put o.dst ((F key).getD z)) w) : wpList P ops Q (o :: rest) a w := by
 refine wpList_plain hg fun K' hK' => ?_
 unfold Oper.wp
 simp [execOp, hop, hm, hx, h.look K ht hz hkey, Result.andThen]
 exact hK' _ _ hK
theorem wpList_put [DecidableEq κ] {w : World} {ops : Array Oper} {rest : List Oper} {o : Oper} {a : Act} {Q : Exit → Act → World → Prop}
  (hg : o.guard = none) (m x v : Operand) (t : TypeId) (hop : o.op = Op.mapUpdate t m x v) (k e : TypeId) (K : Keyed P k) (ht : P.underlying t = some (.map k e))
  (b n : Nat) (F : κ → Option Value) (hm : a.eval m = .map (some b)) (h : MapIs P k en w b n F) (hn : n < maxLen) (key : κ) (val : Value) (kl : Lit) (hx : a.eval x = en key) (hv : a.eval v = val) (hkey : keyOf P k (en key) = some kl)
  (hK : ∀ w', MapIs P k en w' b (n + 1) (fun y => if y = key then some val else F y) → w.grownBy w' (some b) → wpList P ops Q rest (a.put o.dst undef) w') : wpList P ops Q (o :: rest) a w := by
 refine wpList_plain hg fun K' hK' => ?_
 obtain ⟨w', hrun, r1, r2⟩ := h.put K ht hn hkey val
 unfold Oper.wp
 simp [execOp, hop, hm, hx, hv, hrun, Result.andThen]
 exact hK' _ _ (hK w' r1 r2)
end
def kv (x : Int × ByteArray) : Value := .agg #[.int .i64 x.1, .string x.2]
def goodK (x : Int × ByteArray) : Prop := (-9223372036854775808 ≤ x.1 ∧ x.1 ≤ 9223372036854775807) ∧ x.2.size ≤ maxLen
theorem kv_inj {x y : Int × ByteArray} : kv x = kv y ↔ x = y := by
 obtain ⟨a, s⟩ := x; obtain ⟨c, u⟩ := y
 simp [kv]
theorem pair_lits (P : Program) (T a b : TypeId) (fs : Array Field) (hu : P.underlying T = some (.struct fs)) (ha : P.underlying a = some (.int .i64)) (hb : P.underlying b = some .string) (hc : P.cellsOf T = 2) (hca : P.cellsOf a = 1) (hcb : P.cellsOf b = 1)
  (f1 f2 : Field) (hf : fs = #[f1, f2]) (h1 : f1.name ≠ "_") (h2 : f2.name ≠ "_") (ht1 : f1.type = a) (ht2 : f2.type = b) (ho1 : f1.offset = 0) (ho2 : f2.offset = 1)
  (d : Nat) (x : Int × ByteArray) (hx : goodK x) : ∃ ls, P.keyLits (d + 2) T [.int .i64 x.1, .string x.2] = some ls := by
 subst hf ht1 ht2
 obtain ⟨⟨hlo, hhi⟩, hs⟩ := hx
 have hw : (Lit.int .i64 x.1).wf = true := by simp [Lit.wf, IntKind.min, IntKind.max, IntKind.signed, IntKind.bits]; omega
 refine ⟨[.int .i64 x.1, .string x.2.data.toList], ?_⟩
 simp [Program.keyLits, hu, ha, hb, hc, hca, hcb, h1, h2, ho1, ho2, hw, hs]
theorem laid_out : laidOutB Tryz.prog = true := by kernel_rfl
theorem types_two : ∃ d, Tryz.prog.types.size + 1 = d + 2 := by
 have : decide (1 ≤ Tryz.prog.types.size) = true := by kernel_rfl
 have := of_decide_eq_true this
 exact ⟨Tryz.prog.types.size - 1, by omega⟩
theorem gk_deep : Tryz.prog.keyTypeAt (Tryz.prog.types.size + 1) 117 = true := by kernel_rfl
theorem gk_law : Keyed Tryz.prog 117 := Keyed.of_law (deep_law_laid laid_out (m := 2) (by omega) (of_decide_eq_true (by kernel_rfl : decide (117 < Tryz.prog.types.size) = true)) (by kernel_rfl) (by rw [Tryz.underlying117]))
theorem gk_key (x : Int × ByteArray) (hx : goodK x) : ∃ kl, keyOf Tryz.prog 117 (kv x) = some kl := by
 obtain ⟨d, hd⟩ := types_two
 obtain ⟨ls, hl⟩ := pair_lits Tryz.prog 117 3 9 _ Tryz.underlying117 (by kernel_rfl) (by kernel_rfl) (by kernel_rfl) (by kernel_rfl) (by kernel_rfl) _ _ rfl (by decide) (by decide) rfl rfl rfl rfl d x hx
 have hk : Tryz.prog.keyType 117 = true := gk_deep
 have hf : (kv x).formed Tryz.prog 117 = true := by
  have hc : Tryz.prog.cellsOf 117 = 2 := by kernel_rfl
  simp [kv, Value.formed, Tryz.underlying117, hc]
 rw [← hd] at hl
 refine ⟨.string (keyBytes ls), ?_⟩
 simp only [keyOf, Tryz.underlying117, hk, hf, Bool.and_self, if_true]
 have e1 : (kv x).cells.toList = [.int .i64 x.1, .string x.2] := by simp [kv, Value.cells]
 rw [e1, hl]; rfl
end Go.Proofs.YtnjcpoojgmpmeaaGreatDoor.Mapk
namespace Go.Proofs.YtnjcpoojgmpmeaaGreatDoor.Plug
open RowKit YtnjcpoojgmpmeaaGreatDoor YtnjcpoojgmpmeaaGreatDoor.PX YtnjcpoojgmpmeaaGreatDoor.Utf YtnjcpoojgmpmeaaGreatDoorW.PrintWords YtnjcpoojgmpmeaaGreatDoorW.PrintLast
theorem rd_at (l : List Int) (i : Nat) (h : i < l.length) : rd l (i : Int) = l[i] := by
  unfold rd; rw [Int.toNat_natCast, List.getD_eq_getElem?_getD, List.getElem?_eq_getElem h]; rfl
end Go.Proofs.YtnjcpoojgmpmeaaGreatDoor.Plug

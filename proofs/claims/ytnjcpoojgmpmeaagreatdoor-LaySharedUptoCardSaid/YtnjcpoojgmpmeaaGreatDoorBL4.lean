/- Texts that stand behind one another, laid into one: what this claim needs of them. -/
import Derived.Test.YtnjcpoojgmpmeaaGreatDoorBL0
import Derived.Test.YtnjcpoojgmpmeaaGreatDoorBL3
import Derived.Test.YtnjcpoojgmpmeaaGreatDoorBL2
import Derived.KernelRfl
namespace Go.Proofs.YtnjcpoojgmpmeaaGreatDoor.PX
open RowKit YtnjcpoojgmpmeaaGreatDoorW.PrintWords YtnjcpoojgmpmeaaGreatDoorW.PrintLast YtnjcpoojgmpmeaaGreatDoorW.PrintMore YtnjcpoojgmpmeaaGreatDoor YtnjcpoojgmpmeaaGreatDoor.Plug
attribute [local go_sem] max2_int min2_int max_two min_two max_three min_three max_four min_four   -- for this text's walks alone
set_option linter.unusedVariables false
set_option linter.unusedSimpArgs false
def grommetlaw14_LayDeep.l0 : Nat → Bool → Int → Int → Int → List (S45) → Int → Option (Bool)
  | 0, _, _, _, _, _, _ => none
  | k + 1, x1, x5, x15, x16, x102000, x102001 => if x16 < x15 then (if x16 = (wrap64 (x5 - 1)) then (if x1 = true then (if x102000.length < 2932031007402 then (grommetlaw14_LayDeep.l0 k x1 x5 x15 (wrap64 (x16 + 1)) (x102000 ++ [(⟨5, (⟨#[]⟩ : ByteArray), (([0] : List Int))⟩ : S45)]) x102001) else (none)) else (if x102000.length < 2932031007402 then (grommetlaw14_LayDeep.l0 k x1 x5 x15 (wrap64 (x16 + 1)) (x102000 ++ [(⟨5, (⟨#[]⟩ : ByteArray), ([] : List Int)⟩ : S45)]) x102001) else (none))) else (if x102000.length < 2932031007402 then (grommetlaw14_LayDeep.l0 k x1 x5 x15 (wrap64 (x16 + 1)) (x102000 ++ [(⟨5, (⟨#[]⟩ : ByteArray), (([wrap64 (x16 + 1)] : List Int))⟩ : S45)]) x102001) else (none))) else ((lay_Tree.f x102000 x102001).bind fun bt118 => (if x5 > 64 then (if bt118.2.2.2.2 = 10 then ((grommetref09_Same.f k bt118.1 bt118.2.1 bt118.2.2.1 bt118.2.2.2.1 0 (⟨#[]⟩ : ByteArray) (⟨#[]⟩ : ByteArray) ([] : List (S29))).bind fun t126 => (if t126 = true then ((grommetlaw14_alive.f).bind fun t127 => (some t127)) else (some false))) else (some false)) else (if bt118.2.2.2.2 = 0 then (if ((bt118.2.2.1.toList == ([97, 49] : List UInt8)) == x1) = true then ((grommetlaw14_alive.f).bind fun t128 => (some t128)) else (some false)) else (some false))))
def grommetlaw14_LayDeep.f (k : Nat) (a0 : Int) (a1 : Bool) : Option (Bool) := grommetlaw14_LayDeep.l0 k a1 (wrap64 ((Int.tmod (wrap64 (a0)) 90) + 1)) (wrap64 ((Int.tmod (wrap64 (a0)) 90) + 1)) 0 ([] : List (S45)) 0
theorem qaa0_ {P : Prop} (h_ : P := by repeat (first | (with_reducible first | exact HB.out | apply below_alloc | apply pw_below_drewN | apply below_drew1 | refine below_set ?_ GE101.out) | exact HB.out)) : P := h_
theorem qaa1_ {P : Prop} (h_ : P := by (with_reducible repeat (first | refine blk_drewN ?_ _ | refine blk_drew ?_ | refine blk_alloc ?_ _)); exact BK101.out) : P := h_
theorem qaa2_ {P : Prop} (h_ : P := by first | ((repeat (first | (with_reducible first | exact HB.out | apply below_alloc | apply pw_below_drewN | apply below_drew1 | (refine Glob.below_set ?_ (by assumption) _ _ _)) | exact HB.out)); done) | (refine Drawn0.below ?_; repeat (first | exact Drawn0.refl _ | assumption | apply Drawn0.step))) : P := h_
theorem qaa3_ {P : Prop} (h_ : P := by repeat (first | (with_reducible first | exact HB.out | apply below_alloc | apply pw_below_drewN | apply below_drew1 | refine below_set ?_ GE101.out | refine below_set ?_ GE105.out) | exact HB.out)) : P := h_
theorem qaa4_ {P : Prop} (h_ : P := by (with_reducible repeat (first | refine blk_drewN ?_ _ | refine blk_drew ?_ | refine blk_alloc ?_ _)); refine blk_put (cs := #[.int .i64 t118, .string t119, .string t120, .slice none 0 0]) ?_ 3 _ rfl; (with_reducible repeat (first | refine blk_drewN ?_ _ | refine blk_drew ?_ | refine blk_alloc ?_ _)); refine blk_put (cs := #[.int .i64 t118, .string t119, .string (⟨#[]⟩ : ByteArray), .slice none 0 0]) ?_ 2 _ rfl; (with_reducible repeat (first | refine blk_drewN ?_ _ | refine blk_drew ?_ | refine blk_alloc ?_ _)); refine blk_put (cs := #[.int .i64 t118, .string (⟨#[]⟩ : ByteArray), .string (⟨#[]⟩ : ByteArray), .slice none 0 0]) ?_ 1 _ rfl; (with_reducible repeat (first | refine blk_drewN ?_ _ | refine blk_drew ?_ | refine blk_alloc ?_ _)); refine blk_put (cs := #[.int .i64 0, .string (⟨#[]⟩ : ByteArray), .string (⟨#[]⟩ : ByteArray), .slice none 0 0]) ?_ 0 _ rfl; (with_reducible repeat (first | refine blk_drewN ?_ _ | refine blk_drew ?_ | refine blk_alloc ?_ _)); exact BK125.out) : P := h_
theorem qaa5_ {P : Prop} (h_ : P := by (with_reducible repeat (first | apply Kd.S_alloc | apply Kd.S_drewN | apply Kd.S_drew)); exact HO_102000.out) : P := h_
theorem qaa6_ {P : Prop} (h_ : P := by repeat (first | (with_reducible first | exact HB.out | apply below_alloc | apply pw_below_drewN | apply below_drew1 | refine below_set ?_ GE101.out | refine below_set ?_ GE125.out) | exact HB.out)) : P := h_
theorem qaa7_ {P : Prop} (h_ : P := by (with_reducible repeat (first | refine blk_drewN ?_ _ | refine blk_drew ?_ | refine blk_alloc ?_ _)); refine blk_far ?_ NB101_125.out _; (with_reducible repeat (first | refine blk_drewN ?_ _ | refine blk_drew ?_ | refine blk_alloc ?_ _)); refine blk_far ?_ NB101_125.out _; (with_reducible repeat (first | refine blk_drewN ?_ _ | refine blk_drew ?_ | refine blk_alloc ?_ _)); refine blk_far ?_ NB101_125.out _; (with_reducible repeat (first | refine blk_drewN ?_ _ | refine blk_drew ?_ | refine blk_alloc ?_ _)); refine blk_far ?_ NB101_125.out _; (with_reducible repeat (first | refine blk_drewN ?_ _ | refine blk_drew ?_ | refine blk_alloc ?_ _)); exact BK101.out) : P := h_
theorem qaa8_ {P : Prop} (h_ : P := by (with_reducible repeat (first | refine blk_drewN ?_ _ | refine blk_drew ?_ | refine blk_alloc ?_ _)); refine blk_put (cs := #[.int .i64 5, .string (⟨#[]⟩ : ByteArray), .slice Ao27 y102.length co27]) ?_ 2 _ rfl; (with_reducible repeat (first | refine blk_drewN ?_ _ | refine blk_drew ?_ | refine blk_alloc ?_ _)); refine blk_put (cs := #[.int .i64 5, .string (⟨#[]⟩ : ByteArray), .slice none 0 0]) ?_ 2 _ rfl; (with_reducible repeat (first | refine blk_drewN ?_ _ | refine blk_drew ?_ | refine blk_alloc ?_ _)); refine blk_put (cs := #[.int .i64 5, .string (⟨#[]⟩ : ByteArray), .slice none 0 0]) ?_ 1 _ rfl; (with_reducible repeat (first | refine blk_drewN ?_ _ | refine blk_drew ?_ | refine blk_alloc ?_ _)); refine blk_put (cs := #[.int .i64 0, .string (⟨#[]⟩ : ByteArray), .slice none 0 0]) ?_ 0 _ rfl; (with_reducible repeat (first | refine blk_drewN ?_ _ | refine blk_drew ?_ | refine blk_alloc ?_ _)); exact BK105.out) : P := h_
theorem qaa9_ {P : Prop} (h_ : P := by (try simp only [List.map_toArray, List.map_cons, List.map_nil]); first | done | rfl | (simp only [List.length_drop, List.length_take]; rfl)) : P := h_
theorem qaa10_ {P : Prop} (h_ : P := by (with_reducible repeat (first | refine blk_drewN ?_ _ | refine blk_drew ?_ | refine blk_alloc ?_ _)); refine blk_far ?_ NB101_105.out _; (with_reducible repeat (first | refine blk_drewN ?_ _ | refine blk_drew ?_ | refine blk_alloc ?_ _)); refine blk_far ?_ NB101_105.out _; (with_reducible repeat (first | refine blk_drewN ?_ _ | refine blk_drew ?_ | refine blk_alloc ?_ _)); refine blk_far ?_ NB101_105.out _; (with_reducible repeat (first | refine blk_drewN ?_ _ | refine blk_drew ?_ | refine blk_alloc ?_ _)); refine blk_far ?_ NB101_105.out _; (with_reducible repeat (first | refine blk_drewN ?_ _ | refine blk_drew ?_ | refine blk_alloc ?_ _)); exact BK101.out) : P := h_
theorem qaa11_ {P : Prop} (h_ : P := by (with_reducible repeat (first | apply Kd.R_alloc | apply Kd.R_drewN | apply Kd.R_drew)); exact HO123.out) : P := h_
theorem qaa12_ {P : Prop} (h_ : P := by (with_reducible repeat (first | refine blk_drewN ?_ _ | refine blk_drew ?_ | refine blk_alloc ?_ _)); refine blk_put (cs := #[u102000, .int .i64 0]) ?_ 0 _ rfl; (with_reducible repeat (first | refine blk_drewN ?_ _ | refine blk_drew ?_ | refine blk_alloc ?_ _)); exact BK101.out) : P := h_
theorem qaa13_ {P : Prop} (h_ : P := by (with_reducible repeat (first | apply Kd.R_alloc | apply Kd.R_drewN | apply Kd.R_drew)); exact (Kd.R_mono (Kd.R_far (p := ⟨gb125, 3, none⟩) (Kd.R_far (p := ⟨gb125, 2, none⟩) (Kd.R_far (p := ⟨gb125, 1, none⟩) (Kd.R_far (p := ⟨gb125, 0, none⟩) (Kd.R_mono HO123.out (fun k_ hk => (⟨hk, hk.2⟩ : _ ∧ k_ ≠ gb125))) (fun _ hk => hk.2) (.int .i64 t118)) (fun _ hk => hk.2) (.string t119)) (fun _ hk => hk.2) (.string t120)) (fun _ hk => hk.2) (.slice Ao69 t121.length co69)) (fun _ h_ => h_.1))) : P := h_
theorem qaa14_ {P : Prop} (h_ : P := by (with_reducible repeat (first | apply Kd.R_alloc | apply Kd.R_drewN | apply Kd.R_drew)); exact (Kd.R_mono (Kd.R_far (p := ⟨gb125, 3, none⟩) (Kd.R_far (p := ⟨gb125, 2, none⟩) (Kd.R_far (p := ⟨gb125, 1, none⟩) (Kd.R_far (p := ⟨gb125, 0, none⟩) (Kd.R_mono HO123.out (fun k_ hk => (⟨hk, hk.2⟩ : _ ∧ k_ ≠ gb125))) (fun _ hk => hk.2) (.int .i64 t118)) (fun _ hk => hk.2) (.string t119)) (fun _ hk => hk.2) (.string t120)) (fun _ hk => hk.2) (.slice Ao60 t121.length co60)) (fun _ h_ => h_.1))) : P := h_
theorem qaa15_ {P : Prop} (h_ : P := by (with_reducible repeat (first | apply Kd.R_alloc | apply Kd.R_drewN | apply Kd.R_drew)); exact (Kd.R_mono (Kd.R_far (p := ⟨gb105, 2, none⟩) (Kd.R_far (p := ⟨gb105, 2, none⟩) (Kd.R_far (p := ⟨gb105, 1, none⟩) (Kd.R_far (p := ⟨gb105, 0, none⟩) (Kd.R_types HO104.out BK105.out (by decide)) (fun _ hk => hk.2) (.int .i64 5)) (fun _ hk => hk.2) (.string (⟨#[]⟩ : ByteArray))) (fun _ hk => hk.2) (.slice Ao27 y102.length co27)) (fun _ hk => hk.2) (.slice none 0 0)) (fun _ h_ => h_.1))) : P := h_
theorem qaa16_ {P : Prop} (h_ : P := by (with_reducible repeat (first | apply Kd.R_alloc | apply Kd.R_drewN | apply Kd.R_drew)); exact (Kd.R_mono (Kd.R_far (p := ⟨gb105, 2, none⟩) (Kd.R_far (p := ⟨gb105, 2, none⟩) (Kd.R_far (p := ⟨gb105, 1, none⟩) (Kd.R_far (p := ⟨gb105, 0, none⟩) (Kd.R_types HO104.out BK105.out (by decide)) (fun _ hk => hk.2) (.int .i64 5)) (fun _ hk => hk.2) (.string (⟨#[]⟩ : ByteArray))) (fun _ hk => hk.2) (.slice Ao10 y102.length co10)) (fun _ hk => hk.2) (.slice none 0 0)) (fun _ h_ => h_.1))) : P := h_
theorem qaa17_ {P : Prop} (h_ : P := by first | rfl | (simp [errW_none, errW_some] <;> rfl) | (simp [*, errW_none, errW_some] <;> rfl)) : P := h_
theorem qaa18_ {P : Prop} (h_ : P := by (with_reducible repeat (first | apply Kd.R_alloc | apply Kd.R_drewN | apply Kd.R_drew)); exact HO104.out) : P := h_
theorem qaa19_ {P : Prop} (h_ : P := by (with_reducible repeat (first | refine blk_drewN ?_ _ | refine blk_drew ?_ | refine blk_alloc ?_ _)); exact BK105.out) : P := h_
theorem qaa20_ {P : Prop} (h_ : P := by repeat (first | (with_reducible first | exact HB.out | apply below_alloc | apply pw_below_drewN | apply below_drew1) | exact HB.out)) : P := h_
theorem qaa21_ {P : Prop} (h_ : P := by first | rfl | (simp; done) | (simp [*]; done)) : P := h_
theorem qaa22_ {P : Prop} (h_ : P := by repeat (first | exact (Kd.S_reads' HO_102000.out).2.2 | (with_reducible refine Kd.C_alloc ?_ _) | (with_reducible refine Kd.C_drewN ?_ _) | (with_reducible refine Kd.C_drew ?_))) : P := h_
theorem qaa23_ {P : Prop} (h_ : P := by exact (Kd.S_reads' HO_102000.out).2.1) : P := h_
set_option maxHeartbeats 8000000 in
set_option maxRecDepth 100000 in
theorem grommetlaw14_LayDeep.calls (k : Nat) (a0 : Int) (a1 : Bool) (r : Bool) (w : World) (hG : Glob.G w) (h : grommetlaw14_LayDeep.f k a0 a1 = some r) :
  Calls Tryz.prog 5 #[.int .u8 a0, .bool a1] w fun e w' => e = .returned (.bool r) ∧ Below w.heap.size w w' := by
 have hu24 := Tryz.underlying24
 have hu45 := Tryz.underlying45
 have hu29 := Tryz.underlying29
 have HB := Aside0.mk (Below.refl w.heap.size w)
 have H : (grommetlaw14_LayDeep.l0 k a1 (wrap64 ((Int.tmod (wrap64 (a0)) 90) + 1)) (wrap64 ((Int.tmod (wrap64 (a0)) 90) + 1)) 0 ([] : List (S45)) 0) = some r := h
 clear h
 have H' := Aside0.mk H
 clear H
 go_enter Tryz.func5, Tryz.ntmps5
 go_wp2_with (first | ((with_reducible refine gate_dst (N := 6) rfl ?_); refine box_event ?hg (N := 6) ?hd (cs := #[.slice none 0 0, .int .i64 0]) (t := 24) ?hr ?_; (case hd => rfl); (case hg => rfl); (case hr => first | (go_simp; done) | (go_simp; rfl)); intro gb101 hg w3 hbox hb; have n0_ := Aside0.mk (below_step (qaa20_) hb); have n1_ := Aside0.mk (hbox); have n2_ := Aside0.mk ((by rw [hg]; exact (below_size (qaa20_)) : w.heap.size ≤ gb101)); have n3_ := Aside0.mk ((by rw [hg]; exact (below_size (qaa20_)) : w.heap.size ≤ gb101)); clear HB; have HB := n0_; have BK101 := n1_; have GW101 := n2_; have GE101 := n3_; clear n0_ n1_ n2_ n3_; clear hb hbox hg))
 go_loopg [16] k (fun kq v16 w' => ∃ (x16_1 : Int) (x102000_1 : List (S45)) (u102000 : Value), v16 = .int .i64 x16_1 ∧ Aside0 (grommetlaw14_LayDeep.l0 kq a1 (wrap64 ((Int.tmod (wrap64 (a0)) 90) + 1)) (wrap64 ((Int.tmod (wrap64 (a0)) 90) + 1)) x16_1 x102000_1 0 = some r) ∧ Aside0 (kq ≤ k) ∧ Aside0 (Kd.S k45 45 w' w.heap.size (fun _ => True) u102000 x102000_1) ∧ Aside0 (w'.heap[gb101]? = some (.cells #[u102000, .int .i64 0] 24 (0, 0))) ∧ Aside0 (Below w.heap.size w w'))
 case atStart => exact ⟨(0), (([] : List (S45))), (.slice none 0 0), (qaa21_), H', ⟨Nat.le_refl _⟩, ⟨by first | exact Kd.S_nil _ _ _ _ _ | exact Kd.N_nil _ _ _ _ _ | exact Kd.V_nil _ _ _ _ _ | exact Kd.Q_nil _ _ _ _ _ | exact Kd.R_nil _ _ _ _ _⟩, ⟨qaa1_⟩, ⟨qaa0_⟩⟩
 case round =>
  clear H'
  try clear p2
  obtain ⟨x16_1, x102000_1, u102000, rfl, HA, HK1, HO_102000, BK101, HB⟩ := hrel
  cases gk with
  | zero => exact absurd HA.out (by simp [grommetlaw14_LayDeep.l0])
  | succ k1 =>
   have H := HA.out
   clear HA
   simp only [grommetlaw14_LayDeep.l0] at H
   by_cases c4 : x16_1 < (wrap64 ((Int.tmod (wrap64 (a0)) 90) + 1))
   rotate_left
   ·
    rw [if_neg c4] at H
    have c4b0 : decide (x16_1 < (wrap64 ((Int.tmod (wrap64 (a0)) 90) + 1))) = false := decide_eq_false c4
    clear c4
    replace H := Option.bind_eq_some_iff.mp H
    obtain ⟨⟨t118, t119, t120, t121, t124⟩, A480, H⟩ := H
    replace H : (if (wrap64 ((Int.tmod (wrap64 (a0)) 90) + 1)) > 64 then (if t124 = 10 then ((grommetref09_Same.f k1 t118 t119 t120 t121 0 (⟨#[]⟩ : ByteArray) (⟨#[]⟩ : ByteArray) ([] : List (S29))).bind fun t126 => (if t126 = true then ((grommetlaw14_alive.f).bind fun t127 => (some t127)) else (some false))) else (some false)) else (if t124 = 0 then (if ((t120.toList == ([97, 49] : List UInt8)) == a1) = true then ((grommetlaw14_alive.f).bind fun t128 => (some t128)) else (some false)) else (some false))) = some r := H
    have A48 := Aside0.mk A480
    clear A480
    by_cases c49 : (wrap64 ((Int.tmod (wrap64 (a0)) 90) + 1)) > 64
    rotate_left
    ·
     rw [if_neg c49] at H
     have c49b0 : decide (64 < (wrap64 ((Int.tmod (wrap64 (a0)) 90) + 1))) = false := decide_eq_false c49
     clear c49
     by_cases c78 : t124 = 0
     rotate_left
     ·
      rw [if_neg c78] at H
      have c78b0 : (t124 == 0) = false := beq_eq_false_iff_ne.mpr c78
      have c78b1 : (t124 != 0) = true := bne_iff_ne.mpr c78
      obtain rfl := Option.some.inj H
      have hcz96_0 : wr.cell? ⟨gb101, 0, none⟩ = some (u102000) := (blk_cell BK101.out 0).trans rfl
      have hcz96_1 : wr.cell? ⟨gb101, 1, none⟩ = some (.int .i64 0) := (blk_cell BK101.out 1).trans rfl
      have hfz96_0 := blk_frozen BK101.out 0
      have hfz96_1 := blk_frozen BK101.out 1
      obtain ⟨Ao97, co97, eo97⟩ := Kd.S_slice HO_102000.out
      subst eo97
      go_wp2_with (first | ((with_reducible refine gate_callee (f := 11) rfl ?_); refine goesL_ (some 40) rfl rfl Tryz.func11 (by kernel_rfl) rfl #[.agg #[.slice Ao97 x102000_1.length co97, .int .i64 0]] rfl (qaa9_) ?_; (with_reducible refine (lay_Tree.calls _ _ x102000_1 0 t118 t119 t120 t121 t124 _ ?side1 ?side2 (hG.below (qaa2_)) A48.out).mono ?_); (case side1 => exact qaa22_); (case side2 => exact qaa23_); rintro e w98 ⟨v122, rfl, ho0, hb⟩; refine ⟨_, rfl, ?_⟩; have n0_ := Aside0.mk (Kd.S_below (qaa5_) hb); have n1_ := Aside0.mk (Kd.R_lower ho0 (below_size (qaa0_))); have n2_ := Aside0.mk (blk_below (g := gb101) (o := .cells #[.slice Ao97 x102000_1.length co97, .int .i64 0] 24 (0, 0)) (qaa1_) hb); have n3_ := Aside0.mk (below_step (qaa0_) hb); clear HO_102000; clear BK101; clear HB; have HO_102000 := n0_; have HO123 := n1_; have BK101 := n2_; have HB := n3_; clear n0_ n1_ n2_ n3_; (try clear hb); (try clear hk); (try clear ho0)) | ((with_reducible refine gate_dst (N := 9) rfl ?_); refine box_event ?hg (N := 9) ?hd (cs := #[.int .i64 0, .string (⟨#[]⟩ : ByteArray), .string (⟨#[]⟩ : ByteArray), .slice none 0 0]) (t := 29) ?hr ?_; (case hd => rfl); (case hg => rfl); (case hr => first | (go_simp; done) | (go_simp; rfl)); intro gb125 hg w99 hbox hb; have n0_ := Aside0.mk (Kd.S_below (qaa5_) hb); have n1_ := Aside0.mk (Kd.R_below (Kd.R_elderB (qaa11_) gb125 (Nat.le_of_eq hg.symm)) hb); have n2_ := Aside0.mk (blk_below (g := gb101) (o := .cells #[.slice Ao97 x102000_1.length co97, .int .i64 0] 24 (0, 0)) (qaa1_) hb); have n3_ := Aside0.mk (below_step (qaa0_) hb); have n4_ := Aside0.mk (hbox); have n5_ := Aside0.mk ((by rw [hg]; exact (below_size (qaa0_)) : w.heap.size ≤ gb125)); have n6_ := Aside0.mk ((by rw [hg]; exact (below_size (qaa0_)) : w.heap.size ≤ gb125)); have n7_ := Aside0.mk ((by rw [hg]; exact Nat.ne_of_lt (blk_lt (g := gb101) (o := .cells #[.slice Ao97 x102000_1.length co97, .int .i64 0] 24 (0, 0)) (qaa1_)) : gb101 ≠ gb125)); have n8_ := Aside0.mk ((by rw [hg]; exact Nat.ne_of_gt (blk_lt (g := gb101) (o := .cells #[.slice Ao97 x102000_1.length co97, .int .i64 0] 24 (0, 0)) (qaa1_)) : gb125 ≠ gb101)); clear HO_102000; clear HO123; clear BK101; clear HB; have HO_102000 := n0_; have HO123 := n1_; have BK101 := n2_; have HB := n3_; have BK125 := n4_; have GW125 := n5_; have GE125 := n6_; have NB101_125 := n7_; have NB125_101 := n8_; clear n0_ n1_ n2_ n3_ n4_ n5_ n6_ n7_ n8_; clear hb hbox hg; have hnb100 := NB125_101.out; have hnc100 := NB101_125.out; have hcz101_0 : w99.cell? ⟨gb125, 0, none⟩ = some (.int .i64 0) := (blk_cell BK125.out 0).trans rfl; have hcz101_1 : w99.cell? ⟨gb125, 1, none⟩ = some (.string (⟨#[]⟩ : ByteArray)) := (blk_cell BK125.out 1).trans rfl; have hcz101_2 : w99.cell? ⟨gb125, 2, none⟩ = some (.string (⟨#[]⟩ : ByteArray)) := (blk_cell BK125.out 2).trans rfl; have hcz101_3 : w99.cell? ⟨gb125, 3, none⟩ = some (.slice none 0 0) := (blk_cell BK125.out 3).trans rfl; have hfz101_0 := blk_frozen BK125.out 0; have hfz101_1 := blk_frozen BK125.out 1; have hfz101_2 := blk_frozen BK125.out 2; have hfz101_3 := blk_frozen BK125.out 3; obtain ⟨Ao102, co102, eo102⟩ := Kd.R_slice HO123.out; subst eo102))
      go_ret
      exact ⟨qaa17_, qaa6_⟩
     rw [if_pos c78] at H
     have c78b0 : (t124 == 0) = true := beq_iff_eq.mpr c78
     have c78b1 : (t124 != 0) = false := bne_eq_false_iff_eq.mpr c78
     clear c78
     by_cases c79 : ((t120.toList == ([97, 49] : List UInt8)) == a1) = true
     rotate_left
     ·
      rw [if_neg c79] at H
      have c79b0 : ((t120.toList == ([97, 49] : List UInt8)) == a1) = false := by simpa using c79
      (try (have c79b1 : decide ((t120.toList == ([97, 49] : List UInt8)) = a1) = false := by simpa using c79))
      (try (have c79b2 : ((t120.toList == ([97, 49] : List UInt8)) == a1) = false := by simpa using c79))
      (try (have c79b3 : ¬ ((t120.toList == ([97, 49] : List UInt8)) = a1) := by simpa using c79))
      clear c79
      obtain rfl := Option.some.inj H
      have hcz89_0 : wr.cell? ⟨gb101, 0, none⟩ = some (u102000) := (blk_cell BK101.out 0).trans rfl
      have hcz89_1 : wr.cell? ⟨gb101, 1, none⟩ = some (.int .i64 0) := (blk_cell BK101.out 1).trans rfl
      have hfz89_0 := blk_frozen BK101.out 0
      have hfz89_1 := blk_frozen BK101.out 1
      obtain ⟨Ao90, co90, eo90⟩ := Kd.S_slice HO_102000.out
      subst eo90
      go_wp2_with (first | ((with_reducible refine gate_callee (f := 11) rfl ?_); refine goesL_ (some 40) rfl rfl Tryz.func11 (by kernel_rfl) rfl #[.agg #[.slice Ao90 x102000_1.length co90, .int .i64 0]] rfl (qaa9_) ?_; (with_reducible refine (lay_Tree.calls _ _ x102000_1 0 t118 t119 t120 t121 t124 _ ?side1 ?side2 (hG.below (qaa2_)) A48.out).mono ?_); (case side1 => exact qaa22_); (case side2 => exact qaa23_); rintro e w91 ⟨v122, rfl, ho0, hb⟩; refine ⟨_, rfl, ?_⟩; have n0_ := Aside0.mk (Kd.S_below (qaa5_) hb); have n1_ := Aside0.mk (Kd.R_lower ho0 (below_size (qaa0_))); have n2_ := Aside0.mk (blk_below (g := gb101) (o := .cells #[.slice Ao90 x102000_1.length co90, .int .i64 0] 24 (0, 0)) (qaa1_) hb); have n3_ := Aside0.mk (below_step (qaa0_) hb); clear HO_102000; clear BK101; clear HB; have HO_102000 := n0_; have HO123 := n1_; have BK101 := n2_; have HB := n3_; clear n0_ n1_ n2_ n3_; (try clear hb); (try clear hk); (try clear ho0)) | ((with_reducible refine gate_dst (N := 9) rfl ?_); refine box_event ?hg (N := 9) ?hd (cs := #[.int .i64 0, .string (⟨#[]⟩ : ByteArray), .string (⟨#[]⟩ : ByteArray), .slice none 0 0]) (t := 29) ?hr ?_; (case hd => rfl); (case hg => rfl); (case hr => first | (go_simp; done) | (go_simp; rfl)); intro gb125 hg w92 hbox hb; have n0_ := Aside0.mk (Kd.S_below (qaa5_) hb); have n1_ := Aside0.mk (Kd.R_below (Kd.R_elderB (qaa11_) gb125 (Nat.le_of_eq hg.symm)) hb); have n2_ := Aside0.mk (blk_below (g := gb101) (o := .cells #[.slice Ao90 x102000_1.length co90, .int .i64 0] 24 (0, 0)) (qaa1_) hb); have n3_ := Aside0.mk (below_step (qaa0_) hb); have n4_ := Aside0.mk (hbox); have n5_ := Aside0.mk ((by rw [hg]; exact (below_size (qaa0_)) : w.heap.size ≤ gb125)); have n6_ := Aside0.mk ((by rw [hg]; exact (below_size (qaa0_)) : w.heap.size ≤ gb125)); have n7_ := Aside0.mk ((by rw [hg]; exact Nat.ne_of_lt (blk_lt (g := gb101) (o := .cells #[.slice Ao90 x102000_1.length co90, .int .i64 0] 24 (0, 0)) (qaa1_)) : gb101 ≠ gb125)); have n8_ := Aside0.mk ((by rw [hg]; exact Nat.ne_of_gt (blk_lt (g := gb101) (o := .cells #[.slice Ao90 x102000_1.length co90, .int .i64 0] 24 (0, 0)) (qaa1_)) : gb125 ≠ gb101)); clear HO_102000; clear HO123; clear BK101; clear HB; have HO_102000 := n0_; have HO123 := n1_; have BK101 := n2_; have HB := n3_; have BK125 := n4_; have GW125 := n5_; have GE125 := n6_; have NB101_125 := n7_; have NB125_101 := n8_; clear n0_ n1_ n2_ n3_ n4_ n5_ n6_ n7_ n8_; clear hb hbox hg; have hnb93 := NB125_101.out; have hnc93 := NB101_125.out; have hcz94_0 : w92.cell? ⟨gb125, 0, none⟩ = some (.int .i64 0) := (blk_cell BK125.out 0).trans rfl; have hcz94_1 : w92.cell? ⟨gb125, 1, none⟩ = some (.string (⟨#[]⟩ : ByteArray)) := (blk_cell BK125.out 1).trans rfl; have hcz94_2 : w92.cell? ⟨gb125, 2, none⟩ = some (.string (⟨#[]⟩ : ByteArray)) := (blk_cell BK125.out 2).trans rfl; have hcz94_3 : w92.cell? ⟨gb125, 3, none⟩ = some (.slice none 0 0) := (blk_cell BK125.out 3).trans rfl; have hfz94_0 := blk_frozen BK125.out 0; have hfz94_1 := blk_frozen BK125.out 1; have hfz94_2 := blk_frozen BK125.out 2; have hfz94_3 := blk_frozen BK125.out 3; obtain ⟨Ao95, co95, eo95⟩ := Kd.R_slice HO123.out; subst eo95))
      go_ret
      exact ⟨qaa17_, qaa6_⟩
     rw [if_pos c79] at H
     have c79b0 : ((t120.toList == ([97, 49] : List UInt8)) == a1) = true := c79
     (try (have c79b1 : decide ((t120.toList == ([97, 49] : List UInt8)) = a1) = true := by simpa using c79))
     (try (have c79b2 : ((t120.toList == ([97, 49] : List UInt8)) == a1) = true := by simpa using c79))
     clear c79
     replace H := Option.bind_eq_some_iff.mp H
     obtain ⟨t128, A800, H⟩ := H
     replace H : (some t128) = some r := H
     have A80 := Aside0.mk A800
     clear A800
     obtain rfl := Option.some.inj H
     have hcz81_0 : wr.cell? ⟨gb101, 0, none⟩ = some (u102000) := (blk_cell BK101.out 0).trans rfl
     have hcz81_1 : wr.cell? ⟨gb101, 1, none⟩ = some (.int .i64 0) := (blk_cell BK101.out 1).trans rfl
     have hfz81_0 := blk_frozen BK101.out 0
     have hfz81_1 := blk_frozen BK101.out 1
     obtain ⟨Ao82, co82, eo82⟩ := Kd.S_slice HO_102000.out
     subst eo82
     go_wp2_with (first | ((with_reducible refine gate_callee (f := 11) rfl ?_); refine goesL_ (some 40) rfl rfl Tryz.func11 (by kernel_rfl) rfl #[.agg #[.slice Ao82 x102000_1.length co82, .int .i64 0]] rfl (qaa9_) ?_; (with_reducible refine (lay_Tree.calls _ _ x102000_1 0 t118 t119 t120 t121 t124 _ ?side1 ?side2 (hG.below (qaa2_)) A48.out).mono ?_); (case side1 => exact qaa22_); (case side2 => exact qaa23_); rintro e w83 ⟨v122, rfl, ho0, hb⟩; refine ⟨_, rfl, ?_⟩; have n0_ := Aside0.mk (Kd.S_below (qaa5_) hb); have n1_ := Aside0.mk (Kd.R_lower ho0 (below_size (qaa0_))); have n2_ := Aside0.mk (blk_below (g := gb101) (o := .cells #[.slice Ao82 x102000_1.length co82, .int .i64 0] 24 (0, 0)) (qaa1_) hb); have n3_ := Aside0.mk (below_step (qaa0_) hb); clear HO_102000; clear BK101; clear HB; have HO_102000 := n0_; have HO123 := n1_; have BK101 := n2_; have HB := n3_; clear n0_ n1_ n2_ n3_; (try clear hb); (try clear hk); (try clear ho0)) | ((with_reducible refine gate_dst (N := 9) rfl ?_); refine box_event ?hg (N := 9) ?hd (cs := #[.int .i64 0, .string (⟨#[]⟩ : ByteArray), .string (⟨#[]⟩ : ByteArray), .slice none 0 0]) (t := 29) ?hr ?_; (case hd => rfl); (case hg => rfl); (case hr => first | (go_simp; done) | (go_simp; rfl)); intro gb125 hg w84 hbox hb; have n0_ := Aside0.mk (Kd.S_below (qaa5_) hb); have n1_ := Aside0.mk (Kd.R_below (Kd.R_elderB (qaa11_) gb125 (Nat.le_of_eq hg.symm)) hb); have n2_ := Aside0.mk (blk_below (g := gb101) (o := .cells #[.slice Ao82 x102000_1.length co82, .int .i64 0] 24 (0, 0)) (qaa1_) hb); have n3_ := Aside0.mk (below_step (qaa0_) hb); have n4_ := Aside0.mk (hbox); have n5_ := Aside0.mk ((by rw [hg]; exact (below_size (qaa0_)) : w.heap.size ≤ gb125)); have n6_ := Aside0.mk ((by rw [hg]; exact (below_size (qaa0_)) : w.heap.size ≤ gb125)); have n7_ := Aside0.mk ((by rw [hg]; exact Nat.ne_of_lt (blk_lt (g := gb101) (o := .cells #[.slice Ao82 x102000_1.length co82, .int .i64 0] 24 (0, 0)) (qaa1_)) : gb101 ≠ gb125)); have n8_ := Aside0.mk ((by rw [hg]; exact Nat.ne_of_gt (blk_lt (g := gb101) (o := .cells #[.slice Ao82 x102000_1.length co82, .int .i64 0] 24 (0, 0)) (qaa1_)) : gb125 ≠ gb101)); clear HO_102000; clear HO123; clear BK101; clear HB; have HO_102000 := n0_; have HO123 := n1_; have BK101 := n2_; have HB := n3_; have BK125 := n4_; have GW125 := n5_; have GE125 := n6_; have NB101_125 := n7_; have NB125_101 := n8_; clear n0_ n1_ n2_ n3_ n4_ n5_ n6_ n7_ n8_; clear hb hbox hg; have hnb85 := NB125_101.out; have hnc85 := NB101_125.out; have hcz86_0 : w84.cell? ⟨gb125, 0, none⟩ = some (.int .i64 0) := (blk_cell BK125.out 0).trans rfl; have hcz86_1 : w84.cell? ⟨gb125, 1, none⟩ = some (.string (⟨#[]⟩ : ByteArray)) := (blk_cell BK125.out 1).trans rfl; have hcz86_2 : w84.cell? ⟨gb125, 2, none⟩ = some (.string (⟨#[]⟩ : ByteArray)) := (blk_cell BK125.out 2).trans rfl; have hcz86_3 : w84.cell? ⟨gb125, 3, none⟩ = some (.slice none 0 0) := (blk_cell BK125.out 3).trans rfl; have hfz86_0 := blk_frozen BK125.out 0; have hfz86_1 := blk_frozen BK125.out 1; have hfz86_2 := blk_frozen BK125.out 2; have hfz86_3 := blk_frozen BK125.out 3; obtain ⟨Ao87, co87, eo87⟩ := Kd.R_slice HO123.out; subst eo87) | (go_at_call 10; (with_reducible refine (grommetlaw14_alive.calls  t128 _ (hG.below (qaa2_)) A80.out).mono ?_); rintro e w88 ⟨rfl, hb⟩; have n0_ := Aside0.mk (Kd.S_below (by (with_reducible repeat (first | apply Kd.S_alloc | apply Kd.S_drewN | apply Kd.S_drew)); exact (Kd.S_mono (Kd.S_far (p := ⟨gb125, 3, none⟩) (Kd.S_far (p := ⟨gb125, 2, none⟩) (Kd.S_far (p := ⟨gb125, 1, none⟩) (Kd.S_far (p := ⟨gb125, 0, none⟩) (Kd.S_types HO_102000.out BK125.out (by decide)) (fun _ hk => hk.2) (.int .i64 t118)) (fun _ hk => hk.2) (.string t119)) (fun _ hk => hk.2) (.string t120)) (fun _ hk => hk.2) (.slice Ao87 t121.length co87)) (fun _ h_ => h_.1))) hb); have n1_ := Aside0.mk (Kd.R_below (by (with_reducible repeat (first | apply Kd.R_alloc | apply Kd.R_drewN | apply Kd.R_drew)); exact (Kd.R_mono (Kd.R_far (p := ⟨gb125, 3, none⟩) (Kd.R_far (p := ⟨gb125, 2, none⟩) (Kd.R_far (p := ⟨gb125, 1, none⟩) (Kd.R_far (p := ⟨gb125, 0, none⟩) (Kd.R_mono HO123.out (fun k_ hk => (⟨hk, hk.2⟩ : _ ∧ k_ ≠ gb125))) (fun _ hk => hk.2) (.int .i64 t118)) (fun _ hk => hk.2) (.string t119)) (fun _ hk => hk.2) (.string t120)) (fun _ hk => hk.2) (.slice Ao87 t121.length co87)) (fun _ h_ => h_.1))) hb); have n2_ := Aside0.mk (blk_below (g := gb101) (o := .cells #[.slice Ao82 x102000_1.length co82, .int .i64 0] 24 (0, 0)) (qaa7_) hb); have n3_ := Aside0.mk (blk_below (g := gb125) (o := .cells #[.int .i64 t118, .string t119, .string t120, .slice Ao87 t121.length co87] 29 (0, 0)) (qaa4_) hb); have n4_ := Aside0.mk (below_step (qaa6_) hb); clear HO_102000; clear HO123; clear BK101; clear BK125; clear HB; have HO_102000 := n0_; have HO123 := n1_; have BK101 := n2_; have BK125 := n3_; have HB := n4_; clear n0_ n1_ n2_ n3_ n4_; (try clear hb); (try clear hk)))
     go_ret
     exact ⟨qaa17_, qaa6_⟩
    rw [if_pos c49] at H
    have c49b0 : decide (64 < (wrap64 ((Int.tmod (wrap64 (a0)) 90) + 1))) = true := decide_eq_true c49
    clear c49
    by_cases c50 : t124 = 10
    rotate_left
    ·
     rw [if_neg c50] at H
     have c50b0 : (t124 == 10) = false := beq_eq_false_iff_ne.mpr c50
     have c50b1 : (t124 != 10) = true := bne_iff_ne.mpr c50
     obtain rfl := Option.some.inj H
     have hcz71_0 : wr.cell? ⟨gb101, 0, none⟩ = some (u102000) := (blk_cell BK101.out 0).trans rfl
     have hcz71_1 : wr.cell? ⟨gb101, 1, none⟩ = some (.int .i64 0) := (blk_cell BK101.out 1).trans rfl
     have hfz71_0 := blk_frozen BK101.out 0
     have hfz71_1 := blk_frozen BK101.out 1
     obtain ⟨Ao72, co72, eo72⟩ := Kd.S_slice HO_102000.out
     subst eo72
     go_wp2_with (first | ((with_reducible refine gate_callee (f := 11) rfl ?_); refine goesL_ (some 40) rfl rfl Tryz.func11 (by kernel_rfl) rfl #[.agg #[.slice Ao72 x102000_1.length co72, .int .i64 0]] rfl (qaa9_) ?_; (with_reducible refine (lay_Tree.calls _ _ x102000_1 0 t118 t119 t120 t121 t124 _ ?side1 ?side2 (hG.below (qaa2_)) A48.out).mono ?_); (case side1 => exact qaa22_); (case side2 => exact qaa23_); rintro e w73 ⟨v122, rfl, ho0, hb⟩; refine ⟨_, rfl, ?_⟩; have n0_ := Aside0.mk (Kd.S_below (qaa5_) hb); have n1_ := Aside0.mk (Kd.R_lower ho0 (below_size (qaa0_))); have n2_ := Aside0.mk (blk_below (g := gb101) (o := .cells #[.slice Ao72 x102000_1.length co72, .int .i64 0] 24 (0, 0)) (qaa1_) hb); have n3_ := Aside0.mk (below_step (qaa0_) hb); clear HO_102000; clear BK101; clear HB; have HO_102000 := n0_; have HO123 := n1_; have BK101 := n2_; have HB := n3_; clear n0_ n1_ n2_ n3_; (try clear hb); (try clear hk); (try clear ho0)) | ((with_reducible refine gate_dst (N := 9) rfl ?_); refine box_event ?hg (N := 9) ?hd (cs := #[.int .i64 0, .string (⟨#[]⟩ : ByteArray), .string (⟨#[]⟩ : ByteArray), .slice none 0 0]) (t := 29) ?hr ?_; (case hd => rfl); (case hg => rfl); (case hr => first | (go_simp; done) | (go_simp; rfl)); intro gb125 hg w74 hbox hb; have n0_ := Aside0.mk (Kd.S_below (qaa5_) hb); have n1_ := Aside0.mk (Kd.R_below (Kd.R_elderB (qaa11_) gb125 (Nat.le_of_eq hg.symm)) hb); have n2_ := Aside0.mk (blk_below (g := gb101) (o := .cells #[.slice Ao72 x102000_1.length co72, .int .i64 0] 24 (0, 0)) (qaa1_) hb); have n3_ := Aside0.mk (below_step (qaa0_) hb); have n4_ := Aside0.mk (hbox); have n5_ := Aside0.mk ((by rw [hg]; exact (below_size (qaa0_)) : w.heap.size ≤ gb125)); have n6_ := Aside0.mk ((by rw [hg]; exact (below_size (qaa0_)) : w.heap.size ≤ gb125)); have n7_ := Aside0.mk ((by rw [hg]; exact Nat.ne_of_lt (blk_lt (g := gb101) (o := .cells #[.slice Ao72 x102000_1.length co72, .int .i64 0] 24 (0, 0)) (qaa1_)) : gb101 ≠ gb125)); have n8_ := Aside0.mk ((by rw [hg]; exact Nat.ne_of_gt (blk_lt (g := gb101) (o := .cells #[.slice Ao72 x102000_1.length co72, .int .i64 0] 24 (0, 0)) (qaa1_)) : gb125 ≠ gb101)); clear HO_102000; clear HO123; clear BK101; clear HB; have HO_102000 := n0_; have HO123 := n1_; have BK101 := n2_; have HB := n3_; have BK125 := n4_; have GW125 := n5_; have GE125 := n6_; have NB101_125 := n7_; have NB125_101 := n8_; clear n0_ n1_ n2_ n3_ n4_ n5_ n6_ n7_ n8_; clear hb hbox hg; have hnb75 := NB125_101.out; have hnc75 := NB101_125.out; have hcz76_0 : w74.cell? ⟨gb125, 0, none⟩ = some (.int .i64 0) := (blk_cell BK125.out 0).trans rfl; have hcz76_1 : w74.cell? ⟨gb125, 1, none⟩ = some (.string (⟨#[]⟩ : ByteArray)) := (blk_cell BK125.out 1).trans rfl; have hcz76_2 : w74.cell? ⟨gb125, 2, none⟩ = some (.string (⟨#[]⟩ : ByteArray)) := (blk_cell BK125.out 2).trans rfl; have hcz76_3 : w74.cell? ⟨gb125, 3, none⟩ = some (.slice none 0 0) := (blk_cell BK125.out 3).trans rfl; have hfz76_0 := blk_frozen BK125.out 0; have hfz76_1 := blk_frozen BK125.out 1; have hfz76_2 := blk_frozen BK125.out 2; have hfz76_3 := blk_frozen BK125.out 3; obtain ⟨Ao77, co77, eo77⟩ := Kd.R_slice HO123.out; subst eo77))
     go_ret
     exact ⟨qaa17_, qaa6_⟩
    rw [if_pos c50] at H
    have c50b0 : (t124 == 10) = true := beq_iff_eq.mpr c50
    have c50b1 : (t124 != 10) = false := bne_eq_false_iff_eq.mpr c50
    clear c50
    replace H := Option.bind_eq_some_iff.mp H
    obtain ⟨t126, A510, H⟩ := H
    replace H : (if t126 = true then ((grommetlaw14_alive.f).bind fun t127 => (some t127)) else (some false)) = some r := H
    have A51 := Aside0.mk A510
    clear A510
    by_cases c52 : t126 = true
    rotate_left
    ·
     replace c52 := Bool.eq_false_iff.mpr c52
     subst c52
     have H1 : (some false) = some r := by rw [if_neg (show ¬ (false = true) by decide)] at H; exact H
     clear H
     have H := H1
     clear H1
     obtain rfl := Option.some.inj H
     have hcz63_0 : wr.cell? ⟨gb101, 0, none⟩ = some (u102000) := (blk_cell BK101.out 0).trans rfl
     have hcz63_1 : wr.cell? ⟨gb101, 1, none⟩ = some (.int .i64 0) := (blk_cell BK101.out 1).trans rfl
     have hfz63_0 := blk_frozen BK101.out 0
     have hfz63_1 := blk_frozen BK101.out 1
     obtain ⟨Ao64, co64, eo64⟩ := Kd.S_slice HO_102000.out
     subst eo64
     go_wp2_with (first | ((with_reducible refine gate_callee (f := 11) rfl ?_); refine goesL_ (some 40) rfl rfl Tryz.func11 (by kernel_rfl) rfl #[.agg #[.slice Ao64 x102000_1.length co64, .int .i64 0]] rfl (qaa9_) ?_; (with_reducible refine (lay_Tree.calls _ _ x102000_1 0 t118 t119 t120 t121 t124 _ ?side1 ?side2 (hG.below (qaa2_)) A48.out).mono ?_); (case side1 => exact qaa22_); (case side2 => exact qaa23_); rintro e w65 ⟨v122, rfl, ho0, hb⟩; refine ⟨_, rfl, ?_⟩; have n0_ := Aside0.mk (Kd.S_below (qaa5_) hb); have n1_ := Aside0.mk (Kd.R_lower ho0 (below_size (qaa0_))); have n2_ := Aside0.mk (blk_below (g := gb101) (o := .cells #[.slice Ao64 x102000_1.length co64, .int .i64 0] 24 (0, 0)) (qaa1_) hb); have n3_ := Aside0.mk (below_step (qaa0_) hb); clear HO_102000; clear BK101; clear HB; have HO_102000 := n0_; have HO123 := n1_; have BK101 := n2_; have HB := n3_; clear n0_ n1_ n2_ n3_; (try clear hb); (try clear hk); (try clear ho0)) | ((with_reducible refine gate_dst (N := 9) rfl ?_); refine box_event ?hg (N := 9) ?hd (cs := #[.int .i64 0, .string (⟨#[]⟩ : ByteArray), .string (⟨#[]⟩ : ByteArray), .slice none 0 0]) (t := 29) ?hr ?_; (case hd => rfl); (case hg => rfl); (case hr => first | (go_simp; done) | (go_simp; rfl)); intro gb125 hg w66 hbox hb; have n0_ := Aside0.mk (Kd.S_below (qaa5_) hb); have n1_ := Aside0.mk (Kd.R_below (Kd.R_elderB (qaa11_) gb125 (Nat.le_of_eq hg.symm)) hb); have n2_ := Aside0.mk (blk_below (g := gb101) (o := .cells #[.slice Ao64 x102000_1.length co64, .int .i64 0] 24 (0, 0)) (qaa1_) hb); have n3_ := Aside0.mk (below_step (qaa0_) hb); have n4_ := Aside0.mk (hbox); have n5_ := Aside0.mk ((by rw [hg]; exact (below_size (qaa0_)) : w.heap.size ≤ gb125)); have n6_ := Aside0.mk ((by rw [hg]; exact (below_size (qaa0_)) : w.heap.size ≤ gb125)); have n7_ := Aside0.mk ((by rw [hg]; exact Nat.ne_of_lt (blk_lt (g := gb101) (o := .cells #[.slice Ao64 x102000_1.length co64, .int .i64 0] 24 (0, 0)) (qaa1_)) : gb101 ≠ gb125)); have n8_ := Aside0.mk ((by rw [hg]; exact Nat.ne_of_gt (blk_lt (g := gb101) (o := .cells #[.slice Ao64 x102000_1.length co64, .int .i64 0] 24 (0, 0)) (qaa1_)) : gb125 ≠ gb101)); clear HO_102000; clear HO123; clear BK101; clear HB; have HO_102000 := n0_; have HO123 := n1_; have BK101 := n2_; have HB := n3_; have BK125 := n4_; have GW125 := n5_; have GE125 := n6_; have NB101_125 := n7_; have NB125_101 := n8_; clear n0_ n1_ n2_ n3_ n4_ n5_ n6_ n7_ n8_; clear hb hbox hg; have hnb67 := NB125_101.out; have hnc67 := NB101_125.out; have hcz68_0 : w66.cell? ⟨gb125, 0, none⟩ = some (.int .i64 0) := (blk_cell BK125.out 0).trans rfl; have hcz68_1 : w66.cell? ⟨gb125, 1, none⟩ = some (.string (⟨#[]⟩ : ByteArray)) := (blk_cell BK125.out 1).trans rfl; have hcz68_2 : w66.cell? ⟨gb125, 2, none⟩ = some (.string (⟨#[]⟩ : ByteArray)) := (blk_cell BK125.out 2).trans rfl; have hcz68_3 : w66.cell? ⟨gb125, 3, none⟩ = some (.slice none 0 0) := (blk_cell BK125.out 3).trans rfl; have hfz68_0 := blk_frozen BK125.out 0; have hfz68_1 := blk_frozen BK125.out 1; have hfz68_2 := blk_frozen BK125.out 2; have hfz68_3 := blk_frozen BK125.out 3; obtain ⟨Ao69, co69, eo69⟩ := Kd.R_slice HO123.out; subst eo69) | (go_at_call 15; (refine (grommetref09_Same.calls k1 t118 t119 t120 _ _ t121 0 (⟨#[]⟩ : ByteArray) (⟨#[]⟩ : ByteArray) _ _ ([] : List (S29)) false _ ?side1 ?side2 ?side3 ?side4 (hG.below (qaa2_)) A51.out).mono ?_); (case side1 => refine (Kd.R_reads' (e := 29) (base := w.heap.size) (ok := fun k_ => (True ∧ k_ ≠ gb125)) (n := t121.length) (c := co69) ?_).2.2; exact (qaa13_)); (case side2 => exact (Kd.R_reads' HO123.out).2.1); (case side3 => exact Kd.C_nil _ _); (case side4 => exact Nat.le_refl _); rintro e w70 ⟨rfl, hb⟩; have n0_ := Aside0.mk (Kd.S_below (by (with_reducible repeat (first | apply Kd.S_alloc | apply Kd.S_drewN | apply Kd.S_drew)); exact (Kd.S_mono (Kd.S_far (p := ⟨gb125, 3, none⟩) (Kd.S_far (p := ⟨gb125, 2, none⟩) (Kd.S_far (p := ⟨gb125, 1, none⟩) (Kd.S_far (p := ⟨gb125, 0, none⟩) (Kd.S_types HO_102000.out BK125.out (by decide)) (fun _ hk => hk.2) (.int .i64 t118)) (fun _ hk => hk.2) (.string t119)) (fun _ hk => hk.2) (.string t120)) (fun _ hk => hk.2) (.slice Ao69 t121.length co69)) (fun _ h_ => h_.1))) hb); have n1_ := Aside0.mk (Kd.R_below (qaa13_) hb); have n2_ := Aside0.mk (blk_below (g := gb101) (o := .cells #[.slice Ao64 x102000_1.length co64, .int .i64 0] 24 (0, 0)) (qaa7_) hb); have n3_ := Aside0.mk (blk_below (g := gb125) (o := .cells #[.int .i64 t118, .string t119, .string t120, .slice Ao69 t121.length co69] 29 (0, 0)) (qaa4_) hb); have n4_ := Aside0.mk (below_step (qaa6_) hb); clear HO_102000; clear HO123; clear BK101; clear BK125; clear HB; have HO_102000 := n0_; have HO123 := n1_; have BK101 := n2_; have BK125 := n3_; have HB := n4_; clear n0_ n1_ n2_ n3_ n4_; (try clear hb); (try clear hk)))
     go_ret
     exact ⟨qaa17_, qaa6_⟩
    subst c52
    have H1 : ((grommetlaw14_alive.f).bind fun t127 => (some t127)) = some r := by rw [if_pos rfl] at H; exact H
    clear H
    have H := H1
    clear H1
    replace H := Option.bind_eq_some_iff.mp H
    obtain ⟨t127, A530, H⟩ := H
    replace H : (some t127) = some r := H
    have A53 := Aside0.mk A530
    clear A530
    obtain rfl := Option.some.inj H
    have hcz54_0 : wr.cell? ⟨gb101, 0, none⟩ = some (u102000) := (blk_cell BK101.out 0).trans rfl
    have hcz54_1 : wr.cell? ⟨gb101, 1, none⟩ = some (.int .i64 0) := (blk_cell BK101.out 1).trans rfl
    have hfz54_0 := blk_frozen BK101.out 0
    have hfz54_1 := blk_frozen BK101.out 1
    obtain ⟨Ao55, co55, eo55⟩ := Kd.S_slice HO_102000.out
    subst eo55
    go_wp2_with (first | ((with_reducible refine gate_callee (f := 11) rfl ?_); refine goesL_ (some 40) rfl rfl Tryz.func11 (by kernel_rfl) rfl #[.agg #[.slice Ao55 x102000_1.length co55, .int .i64 0]] rfl (qaa9_) ?_; (with_reducible refine (lay_Tree.calls _ _ x102000_1 0 t118 t119 t120 t121 t124 _ ?side1 ?side2 (hG.below (qaa2_)) A48.out).mono ?_); (case side1 => exact qaa22_); (case side2 => exact qaa23_); rintro e w56 ⟨v122, rfl, ho0, hb⟩; refine ⟨_, rfl, ?_⟩; have n0_ := Aside0.mk (Kd.S_below (qaa5_) hb); have n1_ := Aside0.mk (Kd.R_lower ho0 (below_size (qaa0_))); have n2_ := Aside0.mk (blk_below (g := gb101) (o := .cells #[.slice Ao55 x102000_1.length co55, .int .i64 0] 24 (0, 0)) (qaa1_) hb); have n3_ := Aside0.mk (below_step (qaa0_) hb); clear HO_102000; clear BK101; clear HB; have HO_102000 := n0_; have HO123 := n1_; have BK101 := n2_; have HB := n3_; clear n0_ n1_ n2_ n3_; (try clear hb); (try clear hk); (try clear ho0)) | ((with_reducible refine gate_dst (N := 9) rfl ?_); refine box_event ?hg (N := 9) ?hd (cs := #[.int .i64 0, .string (⟨#[]⟩ : ByteArray), .string (⟨#[]⟩ : ByteArray), .slice none 0 0]) (t := 29) ?hr ?_; (case hd => rfl); (case hg => rfl); (case hr => first | (go_simp; done) | (go_simp; rfl)); intro gb125 hg w57 hbox hb; have n0_ := Aside0.mk (Kd.S_below (qaa5_) hb); have n1_ := Aside0.mk (Kd.R_below (Kd.R_elderB (qaa11_) gb125 (Nat.le_of_eq hg.symm)) hb); have n2_ := Aside0.mk (blk_below (g := gb101) (o := .cells #[.slice Ao55 x102000_1.length co55, .int .i64 0] 24 (0, 0)) (qaa1_) hb); have n3_ := Aside0.mk (below_step (qaa0_) hb); have n4_ := Aside0.mk (hbox); have n5_ := Aside0.mk ((by rw [hg]; exact (below_size (qaa0_)) : w.heap.size ≤ gb125)); have n6_ := Aside0.mk ((by rw [hg]; exact (below_size (qaa0_)) : w.heap.size ≤ gb125)); have n7_ := Aside0.mk ((by rw [hg]; exact Nat.ne_of_lt (blk_lt (g := gb101) (o := .cells #[.slice Ao55 x102000_1.length co55, .int .i64 0] 24 (0, 0)) (qaa1_)) : gb101 ≠ gb125)); have n8_ := Aside0.mk ((by rw [hg]; exact Nat.ne_of_gt (blk_lt (g := gb101) (o := .cells #[.slice Ao55 x102000_1.length co55, .int .i64 0] 24 (0, 0)) (qaa1_)) : gb125 ≠ gb101)); clear HO_102000; clear HO123; clear BK101; clear HB; have HO_102000 := n0_; have HO123 := n1_; have BK101 := n2_; have HB := n3_; have BK125 := n4_; have GW125 := n5_; have GE125 := n6_; have NB101_125 := n7_; have NB125_101 := n8_; clear n0_ n1_ n2_ n3_ n4_ n5_ n6_ n7_ n8_; clear hb hbox hg; have hnb58 := NB125_101.out; have hnc58 := NB101_125.out; have hcz59_0 : w57.cell? ⟨gb125, 0, none⟩ = some (.int .i64 0) := (blk_cell BK125.out 0).trans rfl; have hcz59_1 : w57.cell? ⟨gb125, 1, none⟩ = some (.string (⟨#[]⟩ : ByteArray)) := (blk_cell BK125.out 1).trans rfl; have hcz59_2 : w57.cell? ⟨gb125, 2, none⟩ = some (.string (⟨#[]⟩ : ByteArray)) := (blk_cell BK125.out 2).trans rfl; have hcz59_3 : w57.cell? ⟨gb125, 3, none⟩ = some (.slice none 0 0) := (blk_cell BK125.out 3).trans rfl; have hfz59_0 := blk_frozen BK125.out 0; have hfz59_1 := blk_frozen BK125.out 1; have hfz59_2 := blk_frozen BK125.out 2; have hfz59_3 := blk_frozen BK125.out 3; obtain ⟨Ao60, co60, eo60⟩ := Kd.R_slice HO123.out; subst eo60) | (go_at_call 15; (refine (grommetref09_Same.calls k1 t118 t119 t120 _ _ t121 0 (⟨#[]⟩ : ByteArray) (⟨#[]⟩ : ByteArray) _ _ ([] : List (S29)) true _ ?side1 ?side2 ?side3 ?side4 (hG.below (qaa2_)) A51.out).mono ?_); (case side1 => refine (Kd.R_reads' (e := 29) (base := w.heap.size) (ok := fun k_ => (True ∧ k_ ≠ gb125)) (n := t121.length) (c := co60) ?_).2.2; exact (qaa14_)); (case side2 => exact (Kd.R_reads' HO123.out).2.1); (case side3 => exact Kd.C_nil _ _); (case side4 => exact Nat.le_refl _); rintro e w61 ⟨rfl, hb⟩; have n0_ := Aside0.mk (Kd.S_below (by (with_reducible repeat (first | apply Kd.S_alloc | apply Kd.S_drewN | apply Kd.S_drew)); exact (Kd.S_mono (Kd.S_far (p := ⟨gb125, 3, none⟩) (Kd.S_far (p := ⟨gb125, 2, none⟩) (Kd.S_far (p := ⟨gb125, 1, none⟩) (Kd.S_far (p := ⟨gb125, 0, none⟩) (Kd.S_types HO_102000.out BK125.out (by decide)) (fun _ hk => hk.2) (.int .i64 t118)) (fun _ hk => hk.2) (.string t119)) (fun _ hk => hk.2) (.string t120)) (fun _ hk => hk.2) (.slice Ao60 t121.length co60)) (fun _ h_ => h_.1))) hb); have n1_ := Aside0.mk (Kd.R_below (qaa14_) hb); have n2_ := Aside0.mk (blk_below (g := gb101) (o := .cells #[.slice Ao55 x102000_1.length co55, .int .i64 0] 24 (0, 0)) (qaa7_) hb); have n3_ := Aside0.mk (blk_below (g := gb125) (o := .cells #[.int .i64 t118, .string t119, .string t120, .slice Ao60 t121.length co60] 29 (0, 0)) (qaa4_) hb); have n4_ := Aside0.mk (below_step (qaa6_) hb); clear HO_102000; clear HO123; clear BK101; clear BK125; clear HB; have HO_102000 := n0_; have HO123 := n1_; have BK101 := n2_; have BK125 := n3_; have HB := n4_; clear n0_ n1_ n2_ n3_ n4_; (try clear hb); (try clear hk)) | (go_at_call 10; (with_reducible refine (grommetlaw14_alive.calls  t127 _ (hG.below (qaa2_)) A53.out).mono ?_); rintro e w62 ⟨rfl, hb⟩; have n0_ := Aside0.mk (Kd.S_below (qaa5_) hb); have n1_ := Aside0.mk (Kd.R_below (qaa11_) hb); have n2_ := Aside0.mk (blk_below (g := gb101) (o := .cells #[.slice Ao55 x102000_1.length co55, .int .i64 0] 24 (0, 0)) (qaa1_) hb); have n3_ := Aside0.mk (blk_below (g := gb125) (o := .cells #[.int .i64 t118, .string t119, .string t120, .slice Ao60 t121.length co60] 29 (0, 0)) (by (with_reducible repeat (first | refine blk_drewN ?_ _ | refine blk_drew ?_ | refine blk_alloc ?_ _)); exact BK125.out) hb); have n4_ := Aside0.mk (below_step (qaa6_) hb); clear HO_102000; clear HO123; clear BK101; clear BK125; clear HB; have HO_102000 := n0_; have HO123 := n1_; have BK101 := n2_; have BK125 := n3_; have HB := n4_; clear n0_ n1_ n2_ n3_ n4_; (try clear hb); (try clear hk)))
    go_ret
    exact ⟨qaa17_, qaa6_⟩
   rw [if_pos c4] at H
   have c4b0 : decide (x16_1 < (wrap64 ((Int.tmod (wrap64 (a0)) 90) + 1))) = true := decide_eq_true c4
   clear c4
   obtain ⟨y102, hy102⟩ : ∃ y_ : List Int, y_ = (([wrap64 (x16_1 + 1)] : List Int)) := ⟨_, rfl⟩
   replace H : (if x16_1 = (wrap64 ((wrap64 ((Int.tmod (wrap64 (a0)) 90) + 1)) - 1)) then (if a1 = true then (if x102000_1.length < 2932031007402 then (grommetlaw14_LayDeep.l0 k1 a1 (wrap64 ((Int.tmod (wrap64 (a0)) 90) + 1)) (wrap64 ((Int.tmod (wrap64 (a0)) 90) + 1)) (wrap64 (x16_1 + 1)) (x102000_1 ++ [(⟨5, (⟨#[]⟩ : ByteArray), (([0] : List Int))⟩ : S45)]) 0) else (none)) else (if x102000_1.length < 2932031007402 then (grommetlaw14_LayDeep.l0 k1 a1 (wrap64 ((Int.tmod (wrap64 (a0)) 90) + 1)) (wrap64 ((Int.tmod (wrap64 (a0)) 90) + 1)) (wrap64 (x16_1 + 1)) (x102000_1 ++ [(⟨5, (⟨#[]⟩ : ByteArray), ([] : List Int)⟩ : S45)]) 0) else (none))) else (if x102000_1.length < 2932031007402 then (grommetlaw14_LayDeep.l0 k1 a1 (wrap64 ((Int.tmod (wrap64 (a0)) 90) + 1)) (wrap64 ((Int.tmod (wrap64 (a0)) 90) + 1)) (wrap64 (x16_1 + 1)) (x102000_1 ++ [(⟨5, (⟨#[]⟩ : ByteArray), y102⟩ : S45)]) 0) else (none))) = some r := by first | (rw [hy102]; with_reducible exact H) | (have H2_ := (Option.bind_some _ _).symm.trans H; rw [hy102]; with_reducible exact H2_) | (have H2_ := (Option.bind_some _ _).symm.trans H; with_reducible exact H2_) | with_reducible exact H | (rw [hy102]; exact H) | exact H
   have Ny102 := Aside0.mk hy102
   clear hy102
   by_cases c5 : x16_1 = (wrap64 ((wrap64 ((Int.tmod (wrap64 (a0)) 90) + 1)) - 1))
   rotate_left
   ·
    rw [if_neg c5] at H
    have c5b0 : (x16_1 == (wrap64 ((wrap64 ((Int.tmod (wrap64 (a0)) 90) + 1)) - 1))) = false := beq_eq_false_iff_ne.mpr c5
    have c5b1 : (x16_1 != (wrap64 ((wrap64 ((Int.tmod (wrap64 (a0)) 90) + 1)) - 1))) = true := bne_iff_ne.mpr c5
    by_cases c35 : x102000_1.length < 2932031007402
    rotate_left
    ·
     rw [if_neg c35] at H
     exact absurd H (by simp)
    rw [if_pos c35] at H
    have LMc35 := Aside0.mk c35
    clear c35
    obtain ⟨y115, hy115⟩ : ∃ y_ : List (S45), y_ = (x102000_1 ++ [(⟨5, (⟨#[]⟩ : ByteArray), y102⟩ : S45)]) := ⟨_, rfl⟩
    replace H : (grommetlaw14_LayDeep.l0 k1 a1 (wrap64 ((Int.tmod (wrap64 (a0)) 90) + 1)) (wrap64 ((Int.tmod (wrap64 (a0)) 90) + 1)) (wrap64 (x16_1 + 1)) y115 0) = some r := by first | (rw [hy115]; with_reducible exact H) | (have H2_ := (Option.bind_some _ _).symm.trans H; rw [hy115]; with_reducible exact H2_) | (have H2_ := (Option.bind_some _ _).symm.trans H; with_reducible exact H2_) | with_reducible exact H | (rw [hy115]; exact H) | exact H
    have Ny115 := Aside0.mk hy115
    clear hy115
    have H' := Aside0.mk H
    clear H
    go_wp2_with (first | ((with_reducible refine gate_dst (N := 21) rfl ?_); refine Kd.R_lit (Kd.int .i64) _ 3 ?hg (N := 21) ?hd (xs := ([wrap64 (x16_1 + 1)] : List Int)) (inner := [.int .i64 (wrap64 (x16_1 + 1))]) (ok := fun _ => True) (okp := fun _ => True) ?hr ?hp (fun _ hk => hk) trivial (Below.refl _ _) (Nat.le_refl _) (by simp) ?_; (case hd => rfl); (case hg => rfl); (case hr => first | (go_simp; done) | (go_simp; rfl)); (case hp => exact (Reps.one (show Kd.M (Kd.int .i64) _ _ _ (wrap64 (x16_1 + 1)) [.int .i64 (wrap64 (x16_1 + 1))] from rfl) (Reps.none _ _))); intro v103 w36 ho37 hb hg_ hnew_; clear hg_ hnew_; (first | rw [← Ny102.out] at ho37 | (simp only [Int.reduceToNat] at ho37; rw [← Ny102.out] at ho37)); have n0_ := Aside0.mk (Kd.S_elder' (qaa5_) (Kd.R_base ho37) hb); have n1_ := Aside0.mk (Kd.R_lower ho37 (below_size (qaa0_))); have n2_ := Aside0.mk (blk_below (g := gb101) (o := .cells #[u102000, .int .i64 0] 24 (0, 0)) (qaa1_) hb); have n3_ := Aside0.mk (below_step (qaa0_) hb); clear HO_102000; clear BK101; clear HB; have HO_102000 := n0_; have HO104 := n1_; have BK101 := n2_; have HB := n3_; clear n0_ n1_ n2_ n3_; clear hb ho37; obtain ⟨Ao38, co38, eo38⟩ := Kd.R_slice HO104.out; subst eo38) | ((with_reducible refine gate_dst (N := 8) rfl ?_); refine box_event ?hg (N := 8) ?hd (cs := #[.int .i64 0, .string (⟨#[]⟩ : ByteArray), .slice none 0 0]) (t := 45) ?hr ?_; (case hd => rfl); (case hg => rfl); (case hr => first | (go_simp; done) | (go_simp; rfl)); intro gb105 hg w39 hbox hb; have n0_ := Aside0.mk (Kd.S_below (Kd.S_elderB (qaa5_) gb105 (Nat.le_of_eq hg.symm)) hb); have n1_ := Aside0.mk (Kd.R_below (qaa18_) hb); have n2_ := Aside0.mk (blk_below (g := gb101) (o := .cells #[u102000, .int .i64 0] 24 (0, 0)) (qaa1_) hb); have n3_ := Aside0.mk (below_step (qaa0_) hb); have n4_ := Aside0.mk (hbox); have n5_ := Aside0.mk ((by rw [hg]; exact (below_size (qaa0_)) : w.heap.size ≤ gb105)); have n6_ := Aside0.mk ((by rw [hg]; exact (below_size (qaa0_)) : w.heap.size ≤ gb105)); have n7_ := Aside0.mk ((by rw [hg]; exact Nat.ne_of_lt (blk_lt (g := gb101) (o := .cells #[u102000, .int .i64 0] 24 (0, 0)) (qaa1_)) : gb101 ≠ gb105)); have n8_ := Aside0.mk ((by rw [hg]; exact Nat.ne_of_gt (blk_lt (g := gb101) (o := .cells #[u102000, .int .i64 0] 24 (0, 0)) (qaa1_)) : gb105 ≠ gb101)); clear HO_102000; clear HO104; clear BK101; clear HB; have HO_102000 := n0_; have HO104 := n1_; have BK101 := n2_; have HB := n3_; have BK105 := n4_; have GW105 := n5_; have GE105 := n6_; have NB101_105 := n7_; have NB105_101 := n8_; clear n0_ n1_ n2_ n3_ n4_ n5_ n6_ n7_ n8_; clear hb hbox hg; have hnb40 := NB105_101.out; have hnc40 := NB101_105.out; have hcz41_0 : w39.cell? ⟨gb105, 0, none⟩ = some (.int .i64 0) := (blk_cell BK105.out 0).trans rfl; have hcz41_1 : w39.cell? ⟨gb105, 1, none⟩ = some (.string (⟨#[]⟩ : ByteArray)) := (blk_cell BK105.out 1).trans rfl; have hcz41_2 : w39.cell? ⟨gb105, 2, none⟩ = some (.slice none 0 0) := (blk_cell BK105.out 2).trans rfl; have hfz41_0 := blk_frozen BK105.out 0; have hfz41_1 := blk_frozen BK105.out 1; have hfz41_2 := blk_frozen BK105.out 2) | ((with_reducible refine gate_store (t := 45) (p := 8) rfl ?_); refine store_event (t := 45) (p := 8) (v := ?vo_w42) (w1 := (((w39.setCell ⟨gb105, 0, none⟩ (.int .i64 5)).setCell ⟨gb105, 1, none⟩ (.string (⟨#[]⟩ : ByteArray))).setCell ⟨gb105, 2, none⟩ (.slice Ao38 y102.length co38))) ?hg ?ho ?hn ?hr ?_; (case ho => rfl); (case hg => rfl); (case hn => rfl); (case hr => first | (go_simp; done) | (go_simp; rfl)); intro w42 hw; have n0_ : Aside0 (Kd.S k45 45 w42 w.heap.size (fun k_ => some k_ ≠ (.slice Ao38 y102.length co38 : Value).ownBlock ∧ k_ ≠ gb105) u102000 x102000_1) := ⟨(by rw [hw]; exact (by (with_reducible repeat (first | apply Kd.S_alloc | apply Kd.S_drewN | apply Kd.S_drew)); exact Kd.S_mono (Kd.S_far (p := ⟨gb105, 2, none⟩) (Kd.S_far (p := ⟨gb105, 1, none⟩) (Kd.S_far (p := ⟨gb105, 0, none⟩) (Kd.S_mono HO_102000.out (fun k_ hk => (⟨hk, hk.2⟩ : _ ∧ k_ ≠ gb105))) (fun _ hk => hk.2) (.int .i64 5)) (fun _ hk => hk.2) (.string (⟨#[]⟩ : ByteArray))) (fun _ hk => hk.2) (.slice Ao38 y102.length co38)) (fun _ hk => ⟨hk.1.1.2, hk.1.2⟩)))⟩; have n1_ : Aside0 (Kd.R (Kd.int .i64) 3 w42 w.heap.size (fun _ => True) (.slice Ao38 y102.length co38) y102) := ⟨(by rw [hw]; exact (by (with_reducible repeat (first | apply Kd.R_alloc | apply Kd.R_drewN | apply Kd.R_drew)); exact Kd.R_mono (Kd.R_far (p := ⟨gb105, 2, none⟩) (Kd.R_far (p := ⟨gb105, 1, none⟩) (Kd.R_far (p := ⟨gb105, 0, none⟩) (Kd.R_types HO104.out BK105.out (by decide)) (fun _ hk => hk.2) (.int .i64 5)) (fun _ hk => hk.2) (.string (⟨#[]⟩ : ByteArray))) (fun _ hk => hk.2) (.slice Ao38 y102.length co38)) (fun _ hk => trivial)))⟩; have n2_ : Aside0 (w42.heap[gb101]? = some (.cells #[u102000, .int .i64 0] 24 (0, 0))) := ⟨(by rw [hw]; exact (by (with_reducible repeat (first | refine blk_drewN ?_ _ | refine blk_drew ?_ | refine blk_alloc ?_ _)); refine blk_far ?_ NB101_105.out _; (with_reducible repeat (first | refine blk_drewN ?_ _ | refine blk_drew ?_ | refine blk_alloc ?_ _)); refine blk_far ?_ NB101_105.out _; (with_reducible repeat (first | refine blk_drewN ?_ _ | refine blk_drew ?_ | refine blk_alloc ?_ _)); refine blk_far ?_ NB101_105.out _; (with_reducible repeat (first | refine blk_drewN ?_ _ | refine blk_drew ?_ | refine blk_alloc ?_ _)); exact BK101.out))⟩; have n3_ : Aside0 (w42.heap[gb105]? = some (.cells #[.int .i64 5, .string (⟨#[]⟩ : ByteArray), .slice Ao38 y102.length co38] 45 (0, 0))) := ⟨(by rw [hw]; exact (by (with_reducible repeat (first | refine blk_drewN ?_ _ | refine blk_drew ?_ | refine blk_alloc ?_ _)); refine blk_put (cs := #[.int .i64 5, .string (⟨#[]⟩ : ByteArray), .slice none 0 0]) ?_ 2 _ rfl; (with_reducible repeat (first | refine blk_drewN ?_ _ | refine blk_drew ?_ | refine blk_alloc ?_ _)); refine blk_put (cs := #[.int .i64 5, .string (⟨#[]⟩ : ByteArray), .slice none 0 0]) ?_ 1 _ rfl; (with_reducible repeat (first | refine blk_drewN ?_ _ | refine blk_drew ?_ | refine blk_alloc ?_ _)); refine blk_put (cs := #[.int .i64 0, .string (⟨#[]⟩ : ByteArray), .slice none 0 0]) ?_ 0 _ rfl; (with_reducible repeat (first | refine blk_drewN ?_ _ | refine blk_drew ?_ | refine blk_alloc ?_ _)); exact BK105.out))⟩; have n4_ : Aside0 (Below w.heap.size w w42) := ⟨(by rw [hw]; exact (qaa3_))⟩; clear hw; clear HO_102000; clear HO104; clear BK101; clear BK105; clear HB; have HO_102000 := n0_; have HO104 := n1_; have BK101 := n2_; have BK105 := n3_; have HB := n4_; clear n0_ n1_ n2_ n3_ n4_; have hcz43_0 : w42.cell? ⟨gb101, 0, none⟩ = some (u102000) := (blk_cell BK101.out 0).trans rfl; have hcz43_1 : w42.cell? ⟨gb101, 1, none⟩ = some (.int .i64 0) := (blk_cell BK101.out 1).trans rfl; have hfz43_0 := blk_frozen BK101.out 0; have hfz43_1 := blk_frozen BK101.out 1; have hcz44_0 : w42.cell? ⟨gb105, 0, none⟩ = some (.int .i64 5) := (blk_cell BK105.out 0).trans rfl; have hcz44_1 : w42.cell? ⟨gb105, 1, none⟩ = some (.string (⟨#[]⟩ : ByteArray)) := (blk_cell BK105.out 1).trans rfl; have hcz44_2 : w42.cell? ⟨gb105, 2, none⟩ = some (.slice Ao38 y102.length co38) := (blk_cell BK105.out 2).trans rfl; have hfz44_0 := blk_frozen BK105.out 0; have hfz44_1 := blk_frozen BK105.out 1; have hfz44_2 := blk_frozen BK105.out 2) | ((with_reducible refine gate_builtin (b := .append) (xs := #[.tmp 32, .tmp 34]) rfl ?_); at_builtin; refine Kd.S_append k45 (w0 := w) w.heap.size rfl (.tmp 32) (.tmp 34) 22 45 (.agg #[(.int .i64 0), (.string ⟨#[]⟩), (.slice none 0 0)]) 48 rfl Tryz.underlying22 info45 rfl (by decide) (by omega) u102000 x102000_1 (⟨5, (⟨#[]⟩ : ByteArray), y102⟩ : S45) [.int .i64 5, .string (⟨#[]⟩ : ByteArray), .slice Ao38 y102.length co38] (fun k_ => k_ ≠ gb105) (fun k_ => some k_ = (.slice Ao38 y102.length co38 : Value).ownBlock) rfl rfl ?aP (fun k_ hk_ => ((Kd.R_mono (ok' := fun k_ => ((fun k_ => k_ ≠ gb105)) k_ ∧ some k_ ≠ (u102000 : Value).ownBlock) (Kd.R_types (Kd.R_apart' (HO104.out) (Kd.S_typed HO_102000.out) (by decide)) BK105.out (by decide)) (fun k_ hk => ⟨hk.2, hk.1.2⟩))).1 k_ hk_.symm) ?aF ?aO ?aB ?aS ?aL ?_; (case aP => exact k45_mkM _ _ _ (⟨5, (⟨#[]⟩ : ByteArray), y102⟩ : S45) (Kd.R_mono (Kd.R_tight rfl (Kd.R_mono (ok' := fun k_ => ((fun k_ => k_ ≠ gb105)) k_ ∧ some k_ ≠ (u102000 : Value).ownBlock) (Kd.R_types (Kd.R_apart' (HO104.out) (Kd.S_typed HO_102000.out) (by decide)) BK105.out (by decide)) (fun k_ hk => ⟨hk.2, hk.1.2⟩))) (fun _ h_ => h_))); (case aB => exact (qaa3_)); (case aF => exact (fun k_ hk => Kd.freshB (g := gb105) (o := .cells #[.int .i64 5, .string (⟨#[]⟩ : ByteArray), .slice Ao38 y102.length co38] 45 (0, 0)) (qaa19_) k_ hk)); (case aO => exact (by (with_reducible repeat (first | apply Kd.S_alloc | apply Kd.S_drewN | apply Kd.S_drew)); exact Kd.S_mono HO_102000.out (fun k_ hk => ⟨hk.2, fun e_ => hk.1 e_⟩))); (case aS => exact (below_size (qaa3_))); (case aL => have := LMc35.out; omega); intro v116 w45 ho hb hg hat; rw [← Ny115.out] at ho; have n0_ := Aside0.mk (blk_grown (g := gb101) (o := .cells #[u102000, .int .i64 0] 24 (0, 0)) (qaa1_) hg (Kd.S_ne HO_102000.out BK101.out (by decide))); have n1_ := Aside0.mk (blk_grown (g := gb105) (o := .cells #[.int .i64 5, .string (⟨#[]⟩ : ByteArray), .slice Ao38 y102.length co38] 45 (0, 0)) (qaa19_) hg (Kd.S_away HO_102000.out (fun _ hk => hk.2))); have n2_ := Aside0.mk (hb); have n3_ := Aside0.mk (ho); clear BK101; clear BK105; clear HB; clear HO_102000; clear HO104; have BK101 := n0_; have BK105 := n1_; have HB := n2_; have HO117 := n3_; clear n0_ n1_ n2_ n3_; clear ho hb hg hat; obtain ⟨Ao46, co46, eo46⟩ := Kd.S_slice HO117.out; subst eo46; have hcz47_0 : w45.cell? ⟨gb101, 0, none⟩ = some (u102000) := (blk_cell BK101.out 0).trans rfl; have hcz47_1 : w45.cell? ⟨gb101, 1, none⟩ = some (.int .i64 0) := (blk_cell BK101.out 1).trans rfl; have hfz47_0 := blk_frozen BK101.out 0; have hfz47_1 := blk_frozen BK101.out 1))
    go_roundg k1
    case measure => have := HK1.out; omega
    case rel => exact ⟨(wrap64 (x16_1 + 1)), (y115), (.slice Ao46 y115.length co46), (qaa21_), H', ⟨by have := HK1.out; omega⟩, ⟨by (with_reducible repeat (first | apply Kd.S_alloc | apply Kd.S_drewN | apply Kd.S_drew)); exact Kd.S_mono (Kd.S_far (p := ⟨gb101, 0, none⟩) (Kd.S_types HO117.out BK101.out (by decide)) (fun _ hk => hk.2) (.slice Ao46 y115.length co46)) (fun _ hk => trivial)⟩, ⟨qaa12_⟩, ⟨qaa3_⟩⟩
   rw [if_pos c5] at H
   have c5b0 : (x16_1 == (wrap64 ((wrap64 ((Int.tmod (wrap64 (a0)) 90) + 1)) - 1))) = true := beq_iff_eq.mpr c5
   have c5b1 : (x16_1 != (wrap64 ((wrap64 ((Int.tmod (wrap64 (a0)) 90) + 1)) - 1))) = false := bne_eq_false_iff_eq.mpr c5
   clear c5
   by_cases c6 : a1 = true
   rotate_left
   ·
    replace c6 := Bool.eq_false_iff.mpr c6
    subst c6
    have H1 : (if x102000_1.length < 2932031007402 then (grommetlaw14_LayDeep.l0 k1 false (wrap64 ((Int.tmod (wrap64 (a0)) 90) + 1)) (wrap64 ((Int.tmod (wrap64 (a0)) 90) + 1)) (wrap64 (x16_1 + 1)) (x102000_1 ++ [(⟨5, (⟨#[]⟩ : ByteArray), ([] : List Int)⟩ : S45)]) 0) else (none)) = some r := by rw [if_neg (show ¬ (false = true) by decide)] at H; exact H
    clear H
    have H := H1
    clear H1
    by_cases c24 : x102000_1.length < 2932031007402
    rotate_left
    ·
     rw [if_neg c24] at H
     exact absurd H (by simp)
    rw [if_pos c24] at H
    have LMc24 := Aside0.mk c24
    clear c24
    obtain ⟨y112, hy112⟩ : ∃ y_ : List (S45), y_ = (x102000_1 ++ [(⟨5, (⟨#[]⟩ : ByteArray), ([] : List Int)⟩ : S45)]) := ⟨_, rfl⟩
    replace H : (grommetlaw14_LayDeep.l0 k1 false (wrap64 ((Int.tmod (wrap64 (a0)) 90) + 1)) (wrap64 ((Int.tmod (wrap64 (a0)) 90) + 1)) (wrap64 (x16_1 + 1)) y112 0) = some r := by first | (rw [hy112]; with_reducible exact H) | (have H2_ := (Option.bind_some _ _).symm.trans H; rw [hy112]; with_reducible exact H2_) | (have H2_ := (Option.bind_some _ _).symm.trans H; with_reducible exact H2_) | with_reducible exact H | (rw [hy112]; exact H) | exact H
    have Ny112 := Aside0.mk hy112
    clear hy112
    have H' := Aside0.mk H
    clear H
    go_wp2_with (first | ((with_reducible refine gate_dst (N := 21) rfl ?_); refine Kd.R_lit (Kd.int .i64) _ 3 ?hg (N := 21) ?hd (xs := ([wrap64 (x16_1 + 1)] : List Int)) (inner := [.int .i64 (wrap64 (x16_1 + 1))]) (ok := fun _ => True) (okp := fun _ => True) ?hr ?hp (fun _ hk => hk) trivial (Below.refl _ _) (Nat.le_refl _) (by simp) ?_; (case hd => rfl); (case hg => rfl); (case hr => first | (go_simp; done) | (go_simp; rfl)); (case hp => exact (Reps.one (show Kd.M (Kd.int .i64) _ _ _ (wrap64 (x16_1 + 1)) [.int .i64 (wrap64 (x16_1 + 1))] from rfl) (Reps.none _ _))); intro v103 w25 ho26 hb hg_ hnew_; clear hg_ hnew_; (first | rw [← Ny102.out] at ho26 | (simp only [Int.reduceToNat] at ho26; rw [← Ny102.out] at ho26)); have n0_ := Aside0.mk (Kd.S_elder' (qaa5_) (Kd.R_base ho26) hb); have n1_ := Aside0.mk (Kd.R_lower ho26 (below_size (qaa0_))); have n2_ := Aside0.mk (blk_below (g := gb101) (o := .cells #[u102000, .int .i64 0] 24 (0, 0)) (qaa1_) hb); have n3_ := Aside0.mk (below_step (qaa0_) hb); clear HO_102000; clear BK101; clear HB; have HO_102000 := n0_; have HO104 := n1_; have BK101 := n2_; have HB := n3_; clear n0_ n1_ n2_ n3_; clear hb ho26; obtain ⟨Ao27, co27, eo27⟩ := Kd.R_slice HO104.out; subst eo27) | ((with_reducible refine gate_dst (N := 8) rfl ?_); refine box_event ?hg (N := 8) ?hd (cs := #[.int .i64 0, .string (⟨#[]⟩ : ByteArray), .slice none 0 0]) (t := 45) ?hr ?_; (case hd => rfl); (case hg => rfl); (case hr => first | (go_simp; done) | (go_simp; rfl)); intro gb105 hg w28 hbox hb; have n0_ := Aside0.mk (Kd.S_below (Kd.S_elderB (qaa5_) gb105 (Nat.le_of_eq hg.symm)) hb); have n1_ := Aside0.mk (Kd.R_below (qaa18_) hb); have n2_ := Aside0.mk (blk_below (g := gb101) (o := .cells #[u102000, .int .i64 0] 24 (0, 0)) (qaa1_) hb); have n3_ := Aside0.mk (below_step (qaa0_) hb); have n4_ := Aside0.mk (hbox); have n5_ := Aside0.mk ((by rw [hg]; exact (below_size (qaa0_)) : w.heap.size ≤ gb105)); have n6_ := Aside0.mk ((by rw [hg]; exact (below_size (qaa0_)) : w.heap.size ≤ gb105)); have n7_ := Aside0.mk ((by rw [hg]; exact Nat.ne_of_lt (blk_lt (g := gb101) (o := .cells #[u102000, .int .i64 0] 24 (0, 0)) (qaa1_)) : gb101 ≠ gb105)); have n8_ := Aside0.mk ((by rw [hg]; exact Nat.ne_of_gt (blk_lt (g := gb101) (o := .cells #[u102000, .int .i64 0] 24 (0, 0)) (qaa1_)) : gb105 ≠ gb101)); clear HO_102000; clear HO104; clear BK101; clear HB; have HO_102000 := n0_; have HO104 := n1_; have BK101 := n2_; have HB := n3_; have BK105 := n4_; have GW105 := n5_; have GE105 := n6_; have NB101_105 := n7_; have NB105_101 := n8_; clear n0_ n1_ n2_ n3_ n4_ n5_ n6_ n7_ n8_; clear hb hbox hg; have hnb29 := NB105_101.out; have hnc29 := NB101_105.out; have hcz30_0 : w28.cell? ⟨gb105, 0, none⟩ = some (.int .i64 0) := (blk_cell BK105.out 0).trans rfl; have hcz30_1 : w28.cell? ⟨gb105, 1, none⟩ = some (.string (⟨#[]⟩ : ByteArray)) := (blk_cell BK105.out 1).trans rfl; have hcz30_2 : w28.cell? ⟨gb105, 2, none⟩ = some (.slice none 0 0) := (blk_cell BK105.out 2).trans rfl; have hfz30_0 := blk_frozen BK105.out 0; have hfz30_1 := blk_frozen BK105.out 1; have hfz30_2 := blk_frozen BK105.out 2; have hq_twice : (((w28.setCell ⟨gb105, 0, none⟩ (.int .i64 5)).setCell ⟨gb105, 1, none⟩ (.string (⟨#[]⟩ : ByteArray))).setCell ⟨gb105, 2, none⟩ (.slice Ao27 y102.length co27)).cell? ⟨gb105, 2, none⟩ = some (.slice Ao27 y102.length co27) := (blk_cell (blk_set (blk_set (blk_set BK105.out 0 (.int .i64 5)) 1 (.string (⟨#[]⟩ : ByteArray))) 2 (.slice Ao27 y102.length co27)) 2).trans (by simp); have hcz31_0 : w28.cell? ⟨gb101, 0, none⟩ = some (u102000) := (blk_cell BK101.out 0).trans rfl; have hcz31_1 : w28.cell? ⟨gb101, 1, none⟩ = some (.int .i64 0) := (blk_cell BK101.out 1).trans rfl; have hfz31_0 := blk_frozen BK101.out 0; have hfz31_1 := blk_frozen BK101.out 1) | ((with_reducible refine gate_builtin (b := .append) (xs := #[.tmp 32, .tmp 34]) rfl ?_); at_builtin; refine Kd.S_append k45 (w0 := w) w.heap.size rfl (.tmp 32) (.tmp 34) 22 45 (.agg #[(.int .i64 0), (.string ⟨#[]⟩), (.slice none 0 0)]) 48 rfl Tryz.underlying22 info45 rfl (by decide) (by omega) u102000 x102000_1 (⟨5, (⟨#[]⟩ : ByteArray), ([] : List Int)⟩ : S45) [.int .i64 5, .string (⟨#[]⟩ : ByteArray), .slice none 0 0] (fun k_ => some k_ ≠ (.slice Ao27 y102.length co27 : Value).ownBlock ∧ k_ ≠ gb105) (fun _ => False) rfl (by first | (go_simp; done) | (go_simp; rfl)) ?aP (fun k_ hk_ => hk_.elim) ?aF ?aO ?aB ?aS ?aL ?_; (case aP => exact k45_mkM _ _ _ (⟨5, (⟨#[]⟩ : ByteArray), ([] : List Int)⟩ : S45) (Kd.R_nil _ _ _ _ _)); (case aB => exact (qaa3_)); (case aF => exact (fun k_ hk => ⟨Kd.fresh' (Kd.R_lt (qaa15_)) k_ hk, Kd.freshB (g := gb105) (o := .cells #[.int .i64 5, .string (⟨#[]⟩ : ByteArray), .slice none 0 0] 45 (0, 0)) (qaa8_) k_ hk⟩)); (case aO => exact (by (with_reducible repeat (first | apply Kd.S_alloc | apply Kd.S_drewN | apply Kd.S_drew)); exact Kd.S_mono (Kd.S_far (p := ⟨gb105, 2, none⟩) (Kd.S_far (p := ⟨gb105, 2, none⟩) (Kd.S_far (p := ⟨gb105, 1, none⟩) (Kd.S_far (p := ⟨gb105, 0, none⟩) (Kd.S_mono HO_102000.out (fun k_ hk => (⟨hk, hk.2⟩ : _ ∧ k_ ≠ gb105))) (fun _ hk => hk.2) (.int .i64 5)) (fun _ hk => hk.2) (.string (⟨#[]⟩ : ByteArray))) (fun _ hk => hk.2) (.slice Ao27 y102.length co27)) (fun _ hk => hk.2) (.slice none 0 0)) (fun k_ hk => ⟨⟨hk.1.1.2, hk.1.2⟩, fun e_ => e_⟩))); (case aS => exact (below_size (qaa3_))); (case aL => have := LMc24.out; omega); intro v113 w32 ho hb hg hat; rw [← Ny112.out] at ho; have n0_ := Aside0.mk (blk_grown (g := gb101) (o := .cells #[u102000, .int .i64 0] 24 (0, 0)) (qaa10_) hg (Kd.S_ne HO_102000.out BK101.out (by decide))); have n1_ := Aside0.mk (Kd.R_over' (qaa15_) (Kd.S_typed (by (with_reducible repeat (first | apply Kd.S_alloc | apply Kd.S_drewN | apply Kd.S_drew)); exact (Kd.S_mono (Kd.S_far (p := ⟨gb105, 2, none⟩) (Kd.S_far (p := ⟨gb105, 2, none⟩) (Kd.S_far (p := ⟨gb105, 1, none⟩) (Kd.S_far (p := ⟨gb105, 0, none⟩) (Kd.S_mono HO_102000.out (fun k_ hk => (⟨hk, hk.2⟩ : _ ∧ k_ ≠ gb105))) (fun _ hk => hk.2) (.int .i64 5)) (fun _ hk => hk.2) (.string (⟨#[]⟩ : ByteArray))) (fun _ hk => hk.2) (.slice Ao27 y102.length co27)) (fun _ hk => hk.2) (.slice none 0 0)) (fun _ h_ => h_.1)))) (by decide) hg); have n2_ := Aside0.mk (blk_grown (g := gb105) (o := .cells #[.int .i64 5, .string (⟨#[]⟩ : ByteArray), .slice none 0 0] 45 (0, 0)) (qaa8_) hg (Kd.S_away HO_102000.out (fun _ hk => hk.2))); have n3_ := Aside0.mk (hb); have n4_ := Aside0.mk (ho); clear BK101; clear HO104; clear BK105; clear HB; clear HO_102000; have BK101 := n0_; have HO104 := n1_; have BK105 := n2_; have HB := n3_; have HO114 := n4_; clear n0_ n1_ n2_ n3_ n4_; clear ho hb hg hat; obtain ⟨Ao33, co33, eo33⟩ := Kd.S_slice HO114.out; subst eo33; have hcz34_0 : w32.cell? ⟨gb101, 0, none⟩ = some (u102000) := (blk_cell BK101.out 0).trans rfl; have hcz34_1 : w32.cell? ⟨gb101, 1, none⟩ = some (.int .i64 0) := (blk_cell BK101.out 1).trans rfl; have hfz34_0 := blk_frozen BK101.out 0; have hfz34_1 := blk_frozen BK101.out 1))
    go_roundg k1
    case measure => have := HK1.out; omega
    case rel => exact ⟨(wrap64 (x16_1 + 1)), (y112), (.slice Ao33 y112.length co33), (qaa21_), H', ⟨by have := HK1.out; omega⟩, ⟨by (with_reducible repeat (first | apply Kd.S_alloc | apply Kd.S_drewN | apply Kd.S_drew)); exact Kd.S_mono (Kd.S_far (p := ⟨gb101, 0, none⟩) (Kd.S_types HO114.out BK101.out (by decide)) (fun _ hk => hk.2) (.slice Ao33 y112.length co33)) (fun _ hk => trivial)⟩, ⟨qaa12_⟩, ⟨qaa3_⟩⟩
   subst c6
   have H1 : (if x102000_1.length < 2932031007402 then (grommetlaw14_LayDeep.l0 k1 true (wrap64 ((Int.tmod (wrap64 (a0)) 90) + 1)) (wrap64 ((Int.tmod (wrap64 (a0)) 90) + 1)) (wrap64 (x16_1 + 1)) (x102000_1 ++ [(⟨5, (⟨#[]⟩ : ByteArray), (([0] : List Int))⟩ : S45)]) 0) else (none)) = some r := by rw [if_pos rfl] at H; exact H
   clear H
   have H := H1
   clear H1
   obtain ⟨y106, hy106⟩ : ∃ y_ : List Int, y_ = (([0] : List Int)) := ⟨_, rfl⟩
   replace H : (if x102000_1.length < 2932031007402 then (grommetlaw14_LayDeep.l0 k1 true (wrap64 ((Int.tmod (wrap64 (a0)) 90) + 1)) (wrap64 ((Int.tmod (wrap64 (a0)) 90) + 1)) (wrap64 (x16_1 + 1)) (x102000_1 ++ [(⟨5, (⟨#[]⟩ : ByteArray), y106⟩ : S45)]) 0) else (none)) = some r := by first | (rw [hy106]; with_reducible exact H) | (have H2_ := (Option.bind_some _ _).symm.trans H; rw [hy106]; with_reducible exact H2_) | (have H2_ := (Option.bind_some _ _).symm.trans H; with_reducible exact H2_) | with_reducible exact H | (rw [hy106]; exact H) | exact H
   have Ny106 := Aside0.mk hy106
   clear hy106
   by_cases c7 : x102000_1.length < 2932031007402
   rotate_left
   ·
    rw [if_neg c7] at H
    exact absurd H (by simp)
   rw [if_pos c7] at H
   have LMc7 := Aside0.mk c7
   clear c7
   obtain ⟨y109, hy109⟩ : ∃ y_ : List (S45), y_ = (x102000_1 ++ [(⟨5, (⟨#[]⟩ : ByteArray), y106⟩ : S45)]) := ⟨_, rfl⟩
   replace H : (grommetlaw14_LayDeep.l0 k1 true (wrap64 ((Int.tmod (wrap64 (a0)) 90) + 1)) (wrap64 ((Int.tmod (wrap64 (a0)) 90) + 1)) (wrap64 (x16_1 + 1)) y109 0) = some r := by first | (rw [hy109]; with_reducible exact H) | (have H2_ := (Option.bind_some _ _).symm.trans H; rw [hy109]; with_reducible exact H2_) | (have H2_ := (Option.bind_some _ _).symm.trans H; with_reducible exact H2_) | with_reducible exact H | (rw [hy109]; exact H) | exact H
   have Ny109 := Aside0.mk hy109
   clear hy109
   have H' := Aside0.mk H
   clear H
   go_wp2_with (first | ((with_reducible refine gate_dst (N := 21) rfl ?_); refine Kd.R_lit (Kd.int .i64) _ 3 ?hg (N := 21) ?hd (xs := ([wrap64 (x16_1 + 1)] : List Int)) (inner := [.int .i64 (wrap64 (x16_1 + 1))]) (ok := fun _ => True) (okp := fun _ => True) ?hr ?hp (fun _ hk => hk) trivial (Below.refl _ _) (Nat.le_refl _) (by simp) ?_; (case hd => rfl); (case hg => rfl); (case hr => first | (go_simp; done) | (go_simp; rfl)); (case hp => exact (Reps.one (show Kd.M (Kd.int .i64) _ _ _ (wrap64 (x16_1 + 1)) [.int .i64 (wrap64 (x16_1 + 1))] from rfl) (Reps.none _ _))); intro v103 w8 ho9 hb hg_ hnew_; clear hg_ hnew_; (first | rw [← Ny102.out] at ho9 | (simp only [Int.reduceToNat] at ho9; rw [← Ny102.out] at ho9)); have n0_ := Aside0.mk (Kd.S_elder' (qaa5_) (Kd.R_base ho9) hb); have n1_ := Aside0.mk (Kd.R_lower ho9 (below_size (qaa0_))); have n2_ := Aside0.mk (blk_below (g := gb101) (o := .cells #[u102000, .int .i64 0] 24 (0, 0)) (qaa1_) hb); have n3_ := Aside0.mk (below_step (qaa0_) hb); clear HO_102000; clear BK101; clear HB; have HO_102000 := n0_; have HO104 := n1_; have BK101 := n2_; have HB := n3_; clear n0_ n1_ n2_ n3_; clear hb ho9; obtain ⟨Ao10, co10, eo10⟩ := Kd.R_slice HO104.out; subst eo10) | ((with_reducible refine gate_dst (N := 8) rfl ?_); refine box_event ?hg (N := 8) ?hd (cs := #[.int .i64 0, .string (⟨#[]⟩ : ByteArray), .slice none 0 0]) (t := 45) ?hr ?_; (case hd => rfl); (case hg => rfl); (case hr => first | (go_simp; done) | (go_simp; rfl)); intro gb105 hg w11 hbox hb; have n0_ := Aside0.mk (Kd.S_below (Kd.S_elderB (qaa5_) gb105 (Nat.le_of_eq hg.symm)) hb); have n1_ := Aside0.mk (Kd.R_below (qaa18_) hb); have n2_ := Aside0.mk (blk_below (g := gb101) (o := .cells #[u102000, .int .i64 0] 24 (0, 0)) (qaa1_) hb); have n3_ := Aside0.mk (below_step (qaa0_) hb); have n4_ := Aside0.mk (hbox); have n5_ := Aside0.mk ((by rw [hg]; exact (below_size (qaa0_)) : w.heap.size ≤ gb105)); have n6_ := Aside0.mk ((by rw [hg]; exact (below_size (qaa0_)) : w.heap.size ≤ gb105)); have n7_ := Aside0.mk ((by rw [hg]; exact Nat.ne_of_lt (blk_lt (g := gb101) (o := .cells #[u102000, .int .i64 0] 24 (0, 0)) (qaa1_)) : gb101 ≠ gb105)); have n8_ := Aside0.mk ((by rw [hg]; exact Nat.ne_of_gt (blk_lt (g := gb101) (o := .cells #[u102000, .int .i64 0] 24 (0, 0)) (qaa1_)) : gb105 ≠ gb101)); clear HO_102000; clear HO104; clear BK101; clear HB; have HO_102000 := n0_; have HO104 := n1_; have BK101 := n2_; have HB := n3_; have BK105 := n4_; have GW105 := n5_; have GE105 := n6_; have NB101_105 := n7_; have NB105_101 := n8_; clear n0_ n1_ n2_ n3_ n4_ n5_ n6_ n7_ n8_; clear hb hbox hg; have hnb12 := NB105_101.out; have hnc12 := NB101_105.out; have hcz13_0 : w11.cell? ⟨gb105, 0, none⟩ = some (.int .i64 0) := (blk_cell BK105.out 0).trans rfl; have hcz13_1 : w11.cell? ⟨gb105, 1, none⟩ = some (.string (⟨#[]⟩ : ByteArray)) := (blk_cell BK105.out 1).trans rfl; have hcz13_2 : w11.cell? ⟨gb105, 2, none⟩ = some (.slice none 0 0) := (blk_cell BK105.out 2).trans rfl; have hfz13_0 := blk_frozen BK105.out 0; have hfz13_1 := blk_frozen BK105.out 1; have hfz13_2 := blk_frozen BK105.out 2) | ((with_reducible refine gate_dst (N := 29) rfl ?_); refine Kd.R_lit (Kd.int .i64) _ 3 ?hg (N := 29) ?hd (xs := ([0] : List Int)) (inner := [.int .i64 0]) (ok := fun _ => True) (okp := fun _ => True) ?hr ?hp (fun _ hk => hk) trivial (Below.refl _ _) (Nat.le_refl _) (by simp) ?_; (case hd => rfl); (case hg => rfl); (case hr => first | (go_simp; done) | (go_simp; rfl)); (case hp => exact (Reps.one (show Kd.M (Kd.int .i64) _ _ _ 0 [.int .i64 0] from rfl) (Reps.none _ _))); intro v107 w14 ho15 hb hg_ hnew_; clear hg_ hnew_; (first | rw [← Ny106.out] at ho15 | (simp only [Int.reduceToNat] at ho15; rw [← Ny106.out] at ho15)); have n0_ := Aside0.mk (Kd.S_elder' (by (with_reducible repeat (first | apply Kd.S_alloc | apply Kd.S_drewN | apply Kd.S_drew)); exact (Kd.S_mono (Kd.S_far (p := ⟨gb105, 2, none⟩) (Kd.S_far (p := ⟨gb105, 2, none⟩) (Kd.S_far (p := ⟨gb105, 1, none⟩) (Kd.S_far (p := ⟨gb105, 0, none⟩) (Kd.S_mono HO_102000.out (fun k_ hk => (⟨hk, hk.2⟩ : _ ∧ k_ ≠ gb105))) (fun _ hk => hk.2) (.int .i64 5)) (fun _ hk => hk.2) (.string (⟨#[]⟩ : ByteArray))) (fun _ hk => hk.2) (.slice Ao10 y102.length co10)) (fun _ hk => hk.2) (.slice none 0 0)) (fun _ h_ => h_.1))) (Kd.R_base ho15) hb); have n1_ := Aside0.mk (Kd.R_elder' (qaa16_) (Kd.R_base ho15) hb); have n2_ := Aside0.mk (Kd.R_lower (Kd.R_new' ho15 (Kd.R_lt (qaa16_))) (below_size (qaa3_))); have n3_ := Aside0.mk (blk_below (g := gb101) (o := .cells #[u102000, .int .i64 0] 24 (0, 0)) (qaa10_) hb); have n4_ := Aside0.mk (blk_below (g := gb105) (o := .cells #[.int .i64 5, .string (⟨#[]⟩ : ByteArray), .slice none 0 0] 45 (0, 0)) (by (with_reducible repeat (first | refine blk_drewN ?_ _ | refine blk_drew ?_ | refine blk_alloc ?_ _)); refine blk_put (cs := #[.int .i64 5, .string (⟨#[]⟩ : ByteArray), .slice Ao10 y102.length co10]) ?_ 2 _ rfl; (with_reducible repeat (first | refine blk_drewN ?_ _ | refine blk_drew ?_ | refine blk_alloc ?_ _)); refine blk_put (cs := #[.int .i64 5, .string (⟨#[]⟩ : ByteArray), .slice none 0 0]) ?_ 2 _ rfl; (with_reducible repeat (first | refine blk_drewN ?_ _ | refine blk_drew ?_ | refine blk_alloc ?_ _)); refine blk_put (cs := #[.int .i64 5, .string (⟨#[]⟩ : ByteArray), .slice none 0 0]) ?_ 1 _ rfl; (with_reducible repeat (first | refine blk_drewN ?_ _ | refine blk_drew ?_ | refine blk_alloc ?_ _)); refine blk_put (cs := #[.int .i64 0, .string (⟨#[]⟩ : ByteArray), .slice none 0 0]) ?_ 0 _ rfl; (with_reducible repeat (first | refine blk_drewN ?_ _ | refine blk_drew ?_ | refine blk_alloc ?_ _)); exact BK105.out) hb); have n5_ := Aside0.mk (below_step (qaa3_) hb); clear HO_102000; clear HO104; clear BK101; clear BK105; clear HB; have HO_102000 := n0_; have HO104 := n1_; have HO108 := n2_; have BK101 := n3_; have BK105 := n4_; have HB := n5_; clear n0_ n1_ n2_ n3_ n4_ n5_; clear hb ho15; obtain ⟨Ao16, co16, eo16⟩ := Kd.R_slice HO108.out; subst eo16; have hcz17_0 : w14.cell? ⟨gb105, 0, none⟩ = some (.int .i64 5) := (blk_cell BK105.out 0).trans rfl; have hcz17_1 : w14.cell? ⟨gb105, 1, none⟩ = some (.string (⟨#[]⟩ : ByteArray)) := (blk_cell BK105.out 1).trans rfl; have hcz17_2 : w14.cell? ⟨gb105, 2, none⟩ = some (.slice none 0 0) := (blk_cell BK105.out 2).trans rfl; have hfz17_0 := blk_frozen BK105.out 0; have hfz17_1 := blk_frozen BK105.out 1; have hfz17_2 := blk_frozen BK105.out 2) | ((with_reducible refine gate_store (t := 40) (p := 30) rfl ?_); refine store_event (t := 40) (p := 30) (v := ?vo_w18) (w1 := (w14.setCell ⟨gb105, 2, none⟩ (.slice Ao16 y106.length co16))) ?hg ?ho ?hn ?hr ?_; (case ho => rfl); (case hg => rfl); (case hn => rfl); (case hr => first | (go_simp; done) | (go_simp; rfl)); intro w18 hw; have n0_ : Aside0 (Kd.S k45 45 w18 w.heap.size (fun k_ => some k_ ≠ (.slice Ao10 y102.length co10 : Value).ownBlock ∧ some k_ ≠ (.slice Ao16 y106.length co16 : Value).ownBlock ∧ k_ ≠ gb105) u102000 x102000_1) := ⟨(by rw [hw]; exact (by (with_reducible repeat (first | apply Kd.S_alloc | apply Kd.S_drewN | apply Kd.S_drew)); exact Kd.S_mono (Kd.S_far (p := ⟨gb105, 2, none⟩) (Kd.S_mono HO_102000.out (fun k_ hk => (⟨hk, hk.1.2⟩ : _ ∧ k_ ≠ gb105))) (fun _ hk => hk.2) (.slice Ao16 y106.length co16)) (fun _ hk => ⟨hk.1.1.1.2, ⟨hk.1.2, hk.1.1.2⟩⟩)))⟩; have n1_ : Aside0 (Kd.R (Kd.int .i64) 3 w18 w.heap.size (fun k_ => some k_ ≠ (.slice Ao16 y106.length co16 : Value).ownBlock) (.slice Ao10 y102.length co10) y102) := ⟨(by rw [hw]; exact (by (with_reducible repeat (first | apply Kd.R_alloc | apply Kd.R_drewN | apply Kd.R_drew)); exact Kd.R_mono (Kd.R_far (p := ⟨gb105, 2, none⟩) (Kd.R_types HO104.out BK105.out (by decide)) (fun _ hk => hk.2) (.slice Ao16 y106.length co16)) (fun _ hk => hk.1.2)))⟩; have n2_ : Aside0 (Kd.R (Kd.int .i64) 3 w18 w.heap.size (fun k_ => some k_ ≠ (.slice Ao10 y102.length co10 : Value).ownBlock) (.slice Ao16 y106.length co16) y106) := ⟨(by rw [hw]; exact (by (with_reducible repeat (first | apply Kd.R_alloc | apply Kd.R_drewN | apply Kd.R_drew)); exact Kd.R_mono (Kd.R_far (p := ⟨gb105, 2, none⟩) (Kd.R_types HO108.out BK105.out (by decide)) (fun _ hk => hk.2) (.slice Ao16 y106.length co16)) (fun _ hk => hk.1.2)))⟩; have n3_ : Aside0 (w18.heap[gb101]? = some (.cells #[u102000, .int .i64 0] 24 (0, 0))) := ⟨(by rw [hw]; exact (by (with_reducible repeat (first | refine blk_drewN ?_ _ | refine blk_drew ?_ | refine blk_alloc ?_ _)); refine blk_far ?_ NB101_105.out _; (with_reducible repeat (first | refine blk_drewN ?_ _ | refine blk_drew ?_ | refine blk_alloc ?_ _)); exact BK101.out))⟩; have n4_ : Aside0 (w18.heap[gb105]? = some (.cells #[.int .i64 5, .string (⟨#[]⟩ : ByteArray), .slice Ao16 y106.length co16] 45 (0, 0))) := ⟨(by rw [hw]; exact (by (with_reducible repeat (first | refine blk_drewN ?_ _ | refine blk_drew ?_ | refine blk_alloc ?_ _)); refine blk_put (cs := #[.int .i64 5, .string (⟨#[]⟩ : ByteArray), .slice none 0 0]) ?_ 2 _ rfl; (with_reducible repeat (first | refine blk_drewN ?_ _ | refine blk_drew ?_ | refine blk_alloc ?_ _)); exact BK105.out))⟩; have n5_ : Aside0 (Below w.heap.size w w18) := ⟨(by rw [hw]; exact (qaa3_))⟩; clear hw; clear HO_102000; clear HO104; clear HO108; clear BK101; clear BK105; clear HB; have HO_102000 := n0_; have HO104 := n1_; have HO108 := n2_; have BK101 := n3_; have BK105 := n4_; have HB := n5_; clear n0_ n1_ n2_ n3_ n4_ n5_; have hcz19_0 : w18.cell? ⟨gb101, 0, none⟩ = some (u102000) := (blk_cell BK101.out 0).trans rfl; have hcz19_1 : w18.cell? ⟨gb101, 1, none⟩ = some (.int .i64 0) := (blk_cell BK101.out 1).trans rfl; have hfz19_0 := blk_frozen BK101.out 0; have hfz19_1 := blk_frozen BK101.out 1; have hcz20_0 : w18.cell? ⟨gb105, 0, none⟩ = some (.int .i64 5) := (blk_cell BK105.out 0).trans rfl; have hcz20_1 : w18.cell? ⟨gb105, 1, none⟩ = some (.string (⟨#[]⟩ : ByteArray)) := (blk_cell BK105.out 1).trans rfl; have hcz20_2 : w18.cell? ⟨gb105, 2, none⟩ = some (.slice Ao16 y106.length co16) := (blk_cell BK105.out 2).trans rfl; have hfz20_0 := blk_frozen BK105.out 0; have hfz20_1 := blk_frozen BK105.out 1; have hfz20_2 := blk_frozen BK105.out 2) | ((with_reducible refine gate_builtin (b := .append) (xs := #[.tmp 32, .tmp 34]) rfl ?_); at_builtin; refine Kd.S_append k45 (w0 := w) w.heap.size rfl (.tmp 32) (.tmp 34) 22 45 (.agg #[(.int .i64 0), (.string ⟨#[]⟩), (.slice none 0 0)]) 48 rfl Tryz.underlying22 info45 rfl (by decide) (by omega) u102000 x102000_1 (⟨5, (⟨#[]⟩ : ByteArray), y106⟩ : S45) [.int .i64 5, .string (⟨#[]⟩ : ByteArray), .slice Ao16 y106.length co16] (fun k_ => some k_ ≠ (.slice Ao10 y102.length co10 : Value).ownBlock ∧ k_ ≠ gb105) (fun k_ => some k_ = (.slice Ao16 y106.length co16 : Value).ownBlock) rfl rfl ?aP (fun k_ hk_ => ((Kd.R_mono (ok' := fun k_ => ((fun k_ => some k_ ≠ (.slice Ao10 y102.length co10 : Value).ownBlock ∧ k_ ≠ gb105)) k_ ∧ some k_ ≠ (u102000 : Value).ownBlock) (Kd.R_types (Kd.R_apart' (HO108.out) (Kd.S_typed HO_102000.out) (by decide)) BK105.out (by decide)) (fun k_ hk => ⟨⟨hk.1.1, hk.2⟩, hk.1.2⟩))).1 k_ hk_.symm) ?aF ?aO ?aB ?aS ?aL ?_; (case aP => exact k45_mkM _ _ _ (⟨5, (⟨#[]⟩ : ByteArray), y106⟩ : S45) (Kd.R_mono (Kd.R_tight rfl (Kd.R_mono (ok' := fun k_ => ((fun k_ => some k_ ≠ (.slice Ao10 y102.length co10 : Value).ownBlock ∧ k_ ≠ gb105)) k_ ∧ some k_ ≠ (u102000 : Value).ownBlock) (Kd.R_types (Kd.R_apart' (HO108.out) (Kd.S_typed HO_102000.out) (by decide)) BK105.out (by decide)) (fun k_ hk => ⟨⟨hk.1.1, hk.2⟩, hk.1.2⟩))) (fun _ h_ => h_))); (case aB => exact (qaa3_)); (case aF => exact (fun k_ hk => ⟨Kd.fresh' (Kd.R_lt (qaa18_)) k_ hk, Kd.freshB (g := gb105) (o := .cells #[.int .i64 5, .string (⟨#[]⟩ : ByteArray), .slice Ao16 y106.length co16] 45 (0, 0)) (qaa19_) k_ hk⟩)); (case aO => exact (by (with_reducible repeat (first | apply Kd.S_alloc | apply Kd.S_drewN | apply Kd.S_drew)); exact Kd.S_mono HO_102000.out (fun k_ hk => ⟨⟨hk.1, hk.2.2⟩, fun e_ => hk.2.1 e_⟩))); (case aS => exact (below_size (qaa3_))); (case aL => have := LMc7.out; omega); intro v110 w21 ho hb hg hat; rw [← Ny109.out] at ho; have n0_ := Aside0.mk (blk_grown (g := gb101) (o := .cells #[u102000, .int .i64 0] 24 (0, 0)) (qaa1_) hg (Kd.S_ne HO_102000.out BK101.out (by decide))); have n1_ := Aside0.mk (Kd.R_over' (qaa18_) (Kd.S_typed (qaa5_)) (by decide) hg); have n2_ := Aside0.mk (blk_grown (g := gb105) (o := .cells #[.int .i64 5, .string (⟨#[]⟩ : ByteArray), .slice Ao16 y106.length co16] 45 (0, 0)) (qaa19_) hg (Kd.S_away HO_102000.out (fun _ hk => hk.2.2))); have n3_ := Aside0.mk (hb); have n4_ := Aside0.mk (ho); clear BK101; clear HO104; clear BK105; clear HB; clear HO_102000; clear HO108; have BK101 := n0_; have HO104 := n1_; have BK105 := n2_; have HB := n3_; have HO111 := n4_; clear n0_ n1_ n2_ n3_ n4_; clear ho hb hg hat; obtain ⟨Ao22, co22, eo22⟩ := Kd.S_slice HO111.out; subst eo22; have hcz23_0 : w21.cell? ⟨gb101, 0, none⟩ = some (u102000) := (blk_cell BK101.out 0).trans rfl; have hcz23_1 : w21.cell? ⟨gb101, 1, none⟩ = some (.int .i64 0) := (blk_cell BK101.out 1).trans rfl; have hfz23_0 := blk_frozen BK101.out 0; have hfz23_1 := blk_frozen BK101.out 1))
   go_roundg k1
   case measure => have := HK1.out; omega
   case rel => exact ⟨(wrap64 (x16_1 + 1)), (y109), (.slice Ao22 y109.length co22), (qaa21_), H', ⟨by have := HK1.out; omega⟩, ⟨by (with_reducible repeat (first | apply Kd.S_alloc | apply Kd.S_drewN | apply Kd.S_drew)); exact Kd.S_mono (Kd.S_far (p := ⟨gb101, 0, none⟩) (Kd.S_types HO111.out BK101.out (by decide)) (fun _ hk => hk.2) (.slice Ao22 y109.length co22)) (fun _ hk => trivial)⟩, ⟨qaa12_⟩, ⟨qaa3_⟩⟩
end Go.Proofs.YtnjcpoojgmpmeaaGreatDoor.PX
namespace Go.Proofs.YtnjcpoojgmpmeaaGreatDoor.Plug
open Go.Maps RowKit YtnjcpoojgmpmeaaGreatDoor YtnjcpoojgmpmeaaGreatDoor.PX YtnjcpoojgmpmeaaGreatDoor.Utf YtnjcpoojgmpmeaaGreatDoor.Mapk YtnjcpoojgmpmeaaGreatDoor.Graphs YtnjcpoojgmpmeaaGreatDoorW.PrintWords YtnjcpoojgmpmeaaGreatDoorW.PrintLast YtnjcpoojgmpmeaaGreatDoorW.PrintMore
set_option linter.unusedVariables false
set_option linter.unusedSimpArgs false
def chain (n : Nat) (r : Bool) : List Nd := (List.range n).map fun (i : Nat) => ⟨5, ⟨#[]⟩, if i + 1 = n then (if r = true then [0] else []) else [(i : Int) + 1]⟩
theorem chain_len (n : Nat) (r : Bool) : (chain n r).length = n := by simp [chain]
theorem chain_at (n : Nat) (r : Bool) (i : Nat) (h : i < n) : rd_T45 (chain n r) (i : Int) = ⟨5, ⟨#[]⟩, if i + 1 = n then (if r = true then [0] else []) else [(i : Int) + 1]⟩ := by
 have e : (chain n r)[i]? = some ⟨5, ⟨#[]⟩, if i + 1 = n then (if r = true then [0] else []) else [(i : Int) + 1]⟩ := by simp [chain, h]
 have hl : i < (chain n r).length := by rw [chain_len]; exact h
 rw [List.getElem?_eq_getElem hl] at e
 have h2 := rd_nat (chain n r) i hl
 rw [h2]
 exact Option.some.inj e
theorem chain_mem (n : Nat) (r : Bool) : ∀ x ∈ chain n r, ∃ i < n, x = ⟨5, ⟨#[]⟩, if i + 1 = n then (if r = true then [0] else []) else [(i : Int) + 1]⟩ := by
 intro x hx
 obtain ⟨i, hi, e⟩ := List.mem_map.1 hx
 exact ⟨i, List.mem_range.1 hi, e.symm⟩
theorem chain_kids (n : Nat) (r : Bool) (i : Nat) (h : i < n) : ∀ k ∈ (if i + 1 = n then (if r = true then [0] else []) else [(i : Int) + 1]), 0 ≤ k ∧ k < (n : Int) := by
  intro k hk
  by_cases c : i + 1 = n
  · rw [if_pos c] at hk
    cases r with
    | true => have : k = 0 := by simpa using hk
              subst this; omega
    | false => simp at hk
  · rw [if_neg c] at hk
    have : k = (i : Int) + 1 := by simpa using hk
    subst this; omega
theorem chain_in (n : Nat) (r : Bool) : Kin (chain n r) := by
 intro x hx k hk
 obtain ⟨i, hi, rfl⟩ := chain_mem n r x hx
 rw [chain_len]
 exact chain_kids n r i hi k hk
theorem chain_tree (n : Nat) (r : Bool) (an : Int → ByteArray) : ∀ (d i K : Nat) (m : Int → Bool) (c : Nat), i + d = n → d + 1 ≤ K → i < n → i ≤ 64 → (∀ k : Nat, k < i → m k = true) → (∀ k : Nat, i ≤ k → m k = false) → c ≤ i →
    ∃ t s, treeO (chain n r) an K i i (m, 0, c) = some (t, s) ∧ s.2.1 = (if 64 < n then 10 else 0) ∧ (n ≤ 64 → t.f2 = an i)
  | 0, i, K, m, c, h, _, h2, _, _, _, _ => absurd h (by omega)
  | d + 1, i, 0, m, c, _, h, _, _, _, _, _ => absurd h (by omega)
  | d + 1, i, K + 1, m, c, h, hK, hi, h64, hm, hm', hc => by
    rw [treeO]
    dsimp only
    rw [if_neg (by rw [hm' i (Nat.le_refl _)]; exact Bool.false_ne_true), if_neg (by omega), chain_at n r i hi]
    dsimp only
    by_cases e : i = 64
    · rw [if_pos (⟨by decide, by omega⟩ : (5 : Int) ≤ 5 ∧ (i : Int) = 64), if_pos (by decide)]
      exact ⟨_, _, rfl, by rw [if_pos (by omega)], fun h => absurd h (by omega)⟩
    · have hy : (if (5 : Int) ≤ 5 ∧ (i : Int) = 64 then (10 : Int) else 0) = 0 := if_neg (fun c => e (by have := c.2; omega))
      rw [hy, if_neg (by decide)]
      by_cases hl : i + 1 = n
      · rw [if_pos hl]
        cases r with
        | false => exact ⟨_, _, rfl, by rw [if_neg (by omega)], fun _ => rfl⟩
        | true =>
          have h0 : treeO (chain n true) an K 0 ((i : Int) + 1) (seen m i, 0, c + 1) = some (⟨7, ⟨#[]⟩, an 0, []⟩, (seen m i, 0, c + 1)) := by
            obtain ⟨K2, rfl⟩ : ∃ K2, K = K2 + 1 := ⟨K - 1, by omega⟩
            have hs : seen m i 0 = true := by
              unfold seen
              by_cases z : (0 : Int) = i
              · rw [if_pos z]
              · rw [if_neg z]
                have := hm 0 (by omega)
                simpa using this
            rw [treeO, if_pos hs]
          exact ⟨_, _, by rw [if_pos rfl, List.foldlM_cons, h0]; rfl, by rw [if_neg (by omega)], fun _ => rfl⟩
      · rw [if_neg hl]
        obtain ⟨t, s, g1, g2, g3⟩ := chain_tree n r an d (i + 1) K (seen m i) (c + 1) (by omega) (by omega) (by omega) (by omega) (fun k hk => by
            unfold seen
            by_cases z : (k : Int) = i
            · rw [if_pos z]
            · rw [if_neg z]; exact hm k (by omega)) (fun k hk => by
            unfold seen
            rw [if_neg (by omega)]; exact hm' k (by omega)) (by omega)
        have g4 : treeO (chain n r) an K ((i : Int) + 1) ((i : Int) + 1) (seen m i, 0, c + 1) = some (t, s) := g1
        exact ⟨_, _, by rw [List.foldlM_cons, g4]; rfl, g2, fun _ => rfl⟩
theorem sum_le_one (f : Int → Nat) (x : Int) : ∀ xs : List Int, xs.Nodup → (∀ a ∈ xs, f a ≤ 1 ∧ (a ≠ x → f a = 0)) → (xs.map f).sum ≤ 1
 | [], _, _ => by simp
 | a :: r, hn, h => by
  obtain ⟨h1, h2⟩ := List.nodup_cons.1 hn
  rw [List.map_cons, List.sum_cons]
  by_cases e : a = x
  rotate_left
  ·
   rw [(h a (by simp)).2 e]
   have := sum_le_one f x r h2 (fun y hy => h y (by simp [hy]))
   omega
  rw [sum_zero f r (fun y hy => (h y (by simp [hy])).2 (fun z => h1 (by rw [e, ← z]; exact hy)))]
  have := (h a (by simp)).1
  omega
theorem sum_ge (f : Int → Nat) (x : Int) : ∀ xs : List Int, x ∈ xs → f x ≤ (xs.map f).sum
 | a :: r, h => by
  rw [List.map_cons, List.sum_cons]
  rcases List.mem_cons.1 h with e | e
  · subst e; omega
  · have := sum_ge f x r e; omega
theorem chain_uses (n : Nat) (r : Bool) (xs : List Int) (hn : xs.Nodup) (hr : ∀ k ∈ xs, 0 ≤ k ∧ k < (n : Int)) (h0 : ((n : Int) - 1) ∈ xs) (x : Int) (hx : x ∈ xs) :
    (¬ ((usesC (chain n r) xs (bumpC (fun _ => 0) 0) x : Int) < 2)) ↔ (x = 0 ∧ r = true) := by
  rw [usesC_sum]
  have hb : ∀ y, bumpC (fun _ => 0) 0 y = if y = 0 then 1 else 0 := fun y => rfl
  rw [hb]
  have hat : ∀ a ∈ xs, (rd_T45 (chain n r) a).f2 = if a + 1 = (n : Int) then (if r = true then [0] else []) else [a + 1] := by
    intro a ha
    obtain ⟨p, q⟩ := hr a ha
    obtain ⟨i, rfl⟩ := Int.eq_ofNat_of_zero_le p
    have := chain_at n r i (by omega)
    rw [this]
    dsimp only
    by_cases c : i + 1 = n
    · have c2 : (i : Int) + 1 = (n : Int) := by omega
      simp only [if_pos c, if_pos c2]
    · have c2 : ¬ (i : Int) + 1 = (n : Int) := by omega
      simp only [if_neg c, if_neg c2]
  have hz : xs.map (fun a => (rd_T45 (chain n r) a).f2.count x) = xs.map (fun a => if a + 1 = (n : Int) then (if r = true ∧ x = 0 then 1 else 0) else if a + 1 = x then 1 else 0) := by
    refine List.map_congr_left (fun a ha => ?_)
    rw [hat a ha]
    by_cases c : a + 1 = (n : Int)
    · rw [if_pos c, if_pos c]
      cases r with
      | true => by_cases z : x = 0
                · simp [z]
                · simp [z, Ne.symm z]
      | false => simp
    · rw [if_neg c, if_neg c]
      by_cases z : a + 1 = x
      · simp [z]
      · simp [z]
  rw [hz]
  by_cases e : x = 0
  · subst e
    cases r with
    | true =>
      have this : 1 ≤ (xs.map (fun a => if a + 1 = (n : Int) then (if true = true ∧ (0 : Int) = 0 then 1 else 0) else if a + 1 = 0 then 1 else 0)).sum :=
        Nat.le_trans (Nat.le_of_eq (by simp)) (sum_ge (fun a => if a + 1 = (n : Int) then (if true = true ∧ (0 : Int) = 0 then 1 else 0) else if a + 1 = 0 then 1 else 0) ((n : Int) - 1) xs h0)
      rw [if_pos rfl]
      refine ⟨fun _ => ⟨rfl, rfl⟩, fun _ h => ?_⟩
      omega
    | false =>
      rw [if_pos rfl, sum_zero _ xs (fun a ha => by
        have := hr a ha
        by_cases c : a + 1 = (n : Int)
        · rw [if_pos c]; simp
        · rw [if_neg c, if_neg (by omega)])]
      simp
  · rw [if_neg e]
    have := sum_le_one (fun a => if a + 1 = (n : Int) then (if r = true ∧ x = 0 then 1 else 0) else if a + 1 = x then 1 else 0) (x - 1) xs hn (fun a ha => by
      by_cases c : a + 1 = (n : Int)
      · simp [c, e]
      · simp only [if_neg c]
        constructor
        · split <;> omega
        · intro z; rw [if_neg (by omega)])
    constructor
    · intro h; omega
    · intro h; exact absurd h.1 e
theorem filter_single (x : Int) : ∀ xs : List Int, xs.Nodup → x ∈ xs → xs.filter (fun y => decide (y = x)) = [x]
 | a :: r, hn, h => by
  obtain ⟨h1, h2⟩ := List.nodup_cons.1 hn
  by_cases e : a = x
  rotate_left
  ·
   rw [List.filter_cons_of_neg (by simpa using e)]
   exact filter_single x r h2 ((List.mem_cons.1 h).resolve_left (Ne.symm e))
  subst e
  have : r.filter (fun y => decide (y = a)) = [] := List.filter_eq_nil_iff.2 (fun y hy => by simp; intro z; exact h1 (z ▸ hy))
  rw [List.filter_cons_of_pos (by simp), this]
theorem lay_deep (n : Nat) (r : Bool) (hn : 1 ≤ n) (hn2 : n ≤ 90) (hs : sizesB (chain n r) = true) (hG : RightG (chain n r) 0) (h7 : ∀ x ∈ chain n r, x.f0 ≤ 6) :
    ∃ t, layF (chain n r) 0 = some (if 64 < n then (noTr, 10) else (t, 0)) ∧ (n ≤ 64 → t.f2 = if r = true then nameB 1 else ⟨#[]⟩) := by
  have hr := (right_iff _ 0 hs).2 hG
  obtain ⟨s0, xs, g1, g2, g3, g4, g5⟩ := go_some _ (chain_in n r) ((chain n r).length + 1) 0 1 _ (go_start (chain n r).length) (by simp) hG.r0 hG.r1
  have gx : s0.2.1 = xs := by rw [g3]; rfl
  rw [gx] at g4 g5
  have hnd := g2.nd
  have hrg := g2.rng
  rw [gx] at hnd hrg
  have hle := g2.le
  rw [gx] at hle
  rw [chain_len] at hrg hle
  have hlast : ∀ i : Nat, i < n → (i : Int) ∈ xs := by
    intro i
    induction i with
    | zero => intro _; exact g4
    | succ i ih =>
      intro hi
      have h1 := g5 (i : Int) (ih (by omega)) ((i : Int) + 1)
      rw [chain_at n r i (by omega)] at h1
      have h2 := h1 (by dsimp only; rw [if_neg (by omega)]; simp)
      exact h2
  have hO : graph_Order.f (chain n r) 0 = some (xs, 0) := by
    unfold graph_Order.f
    rw [if_pos hs, if_pos hr, g1]
    simp [gx]
  have h0 : ((n : Int) - 1) ∈ xs := by
    have := hlast (n - 1) (by omega)
    rw [show ((n - 1 : Nat) : Int) = (n : Int) - 1 by omega] at this
    exact this
  have hS : iso_Shared.f (chain n r) 0 = some (if r = true then [0] else [], 0) := by
    unfold iso_Shared.f
    rw [hO]
    dsimp only
    rw [if_neg (by simp), if_pos ⟨fun e => by rw [e] at g4; simp at g4, by omega, List.all_eq_true.2 (fun x hx => by have := hrg x hx; rw [chain_len]; simp; omega)⟩]
    refine congrArg some (congrArg (·, (0 : Int)) ?_)
    have hf : xs.filter (fun x => !decide ((usesC (chain n r) xs (bumpC (fun _ => 0) 0) x : Int) < 2)) = xs.filter (fun x => decide (x = 0 ∧ r = true)) := by
      refine List.filter_congr (fun x hx => ?_)
      have h := chain_uses n r xs hnd hrg h0 x hx
      by_cases c : (usesC (chain n r) xs (bumpC (fun _ => 0) 0) x : Int) < 2
      · rw [decide_eq_true c, decide_eq_false (fun z => h.2 z c)]; rfl
      · rw [decide_eq_false c, decide_eq_true (h.1 c)]; rfl
    rw [hf]
    cases r with
    | true =>
      rw [if_pos rfl, show (fun x : Int => decide (x = 0 ∧ true = true)) = fun x => decide (x = 0) by funext x; simp]
      exact filter_single 0 xs hnd g4
    | false =>
      rw [if_neg (by decide)]
      exact List.filter_eq_nil_iff.2 (fun x _ => by simp)
  obtain ⟨t, s, t1, t2, t3⟩ := chain_tree n r (anB (if r = true then [0] else [])) n 0 (n + 1) (fun _ => false) 0 (by omega) (by omega) (by omega) (by omega) (fun k hk => absurd hk (by omega)) (fun k _ => rfl) (by omega)
  have hkl : kidsL (chain n r) xs ≤ xs.length := sum_le_len _ _ (fun a ha => by
    obtain ⟨p, q⟩ := hrg a ha
    obtain ⟨i, rfl⟩ := Int.eq_ofNat_of_zero_le p
    have := chain_at n r i (by omega)
    rw [this]
    dsimp only
    split
    · split <;> simp
    · simp)
  refine ⟨t, ?_, fun h => ?_⟩
  · unfold layF
    rw [hO, hS]
    dsimp only
    rw [if_neg (by decide), chain_len]
    have t1' : treeO (chain n r) (anB (if r = true then [0] else [])) (n + 1) 0 0 (fun _ => false, 0, 0) = some (t, s) := t1
    rw [t1']
    dsimp only
    rw [t2]
    by_cases c : 64 < n
    · rw [if_pos c, if_pos c, if_pos (by decide)]
    · rw [if_neg c, if_neg c, if_neg (by decide), if_neg (by omega)]
  · rw [t3 h]
    cases r with
    | true => rfl
    | false => rfl
end Go.Proofs.YtnjcpoojgmpmeaaGreatDoor.Plug
namespace Go.Proofs.YtnjcpoojgmpmeaaGreatDoor.Pure
open RowKit YtnjcpoojgmpmeaaGreatDoor.PX YtnjcpoojgmpmeaaGreatDoor.Plug YtnjcpoojgmpmeaaGreatDoor.Graphs YtnjcpoojgmpmeaaGreatDoorW.PrintWords YtnjcpoojgmpmeaaGreatDoorW.PrintLast
set_option maxRecDepth 100000
theorem alive14 : grommetlaw14_alive.f = some true := by kernel_rfl
def nodeC (n : Nat) (r : Bool) (i : Nat) : Nd := ⟨5, ⟨#[]⟩, if i + 1 = n then (if r = true then [0] else []) else [(i : Int) + 1]⟩
def upC (n : Nat) (r : Bool) (i : Nat) : List Nd := (List.range i).map (nodeC n r)
theorem upC_len (n : Nat) (r : Bool) (i : Nat) : (upC n r i).length = i := by simp [upC]
theorem upC_succ (n : Nat) (r : Bool) (i : Nat) : upC n r (i + 1) = upC n r i ++ [nodeC n r i] := by
 unfold upC
 rw [List.range_succ, List.map_append]; rfl
theorem upC_all (n : Nat) (r : Bool) : upC n r n = chain n r := rfl
theorem chain_sizes (n : Nat) (r : Bool) : sizesB (chain n r) = true := by
 refine List.all_eq_true.2 fun m hm => ?_
 obtain ⟨i, hi, rfl⟩ := chain_mem n r m hm
 have h1 : (⟨#[]⟩ : ByteArray).size ≤ 1099511627775 := by decide
 have h2 : (if i + 1 = n then (if r = true then [0] else []) else [(i : Int) + 1] : List Int).length ≤ 1099511627776 := by
  split
  · split <;> simp
  · simp
 rw [decide_eq_true h1, decide_eq_true h2]; rfl
theorem chain_k6 (n : Nat) (r : Bool) : ∀ x ∈ chain n r, x.f0 ≤ 6 := by
 intro x hx
 obtain ⟨i, hi, rfl⟩ := chain_mem n r x hx
 show (5 : Int) ≤ 6
 decide
theorem chain_right (n : Nat) (r : Bool) (h1 : 1 ≤ n) (h2 : n ≤ 4096) : RightG (chain n r) 0 := by
 have hl := chain_len n r
 refine ⟨by omega, by omega, by omega, by omega, fun x hx => ?_, fun x hx k hk => ?_⟩
 ·
  obtain ⟨i, hi, rfl⟩ := chain_mem n r x hx
  have hfar : (if i + 1 = n then (if r = true then [0] else []) else [(i : Int) + 1] : List Int).any (farB (chain n r)) = false := by
   rw [List.any_eq_false]
   intro k hk
   have h3 := chain_kids n r i hi k hk
   unfold farB
   rw [hl, decide_eq_false (by omega), decide_eq_false (by omega)]
   decide
  generalize (if i + 1 = n then (if r = true then [0] else []) else [(i : Int) + 1] : List Int) = kids at *
  show nodeB (chain n r) ⟨5, ⟨#[]⟩, kids⟩ (textB 5 ⟨#[]⟩) (keysB 5 kids) = true
  have e1 : textB 5 ⟨#[]⟩ = true := by kernel_rfl
  have e2 : keysB 5 kids = [] := rfl
  rw [e1, e2]
  unfold nodeB
  dsimp only
  rw [if_neg (by decide), if_neg (by decide), if_neg (by decide), if_neg (by simp [scB]), hfar]
  rfl
 ·
  obtain ⟨i, hi, rfl⟩ := chain_mem n r x hx
  have e2 : keysB 5 (if i + 1 = n then (if r = true then [0] else []) else [(i : Int) + 1] : List Int) = [] := rfl
  rw [e2] at hk
  cases hk
theorem same_none (k : Nat) : grommetref09_Same.f (k + 3) noTr.f0 noTr.f1 noTr.f2 noTr.f3 0 (⟨#[]⟩ : ByteArray) (⟨#[]⟩ : ByteArray) [] = some true := by
 unfold noTr
 dsimp only
 rw [grommetref09_Same.f, if_pos rfl, if_pos rfl, if_pos rfl, grommetref09_Same.j0]
 rw [if_neg (by decide), grommetref09_Same.l0, if_neg (by decide)]
theorem deep_end (n : Nat) (r : Bool) (h1 : 1 ≤ n) (h2 : n ≤ 90) (k : Nat) (hk : 3 ≤ k) : grommetlaw14_LayDeep.l0 (k + 1) r (n : Int) (n : Int) (n : Int) (chain n r) 0 = some true := by
 obtain ⟨k, rfl⟩ : ∃ m, k = m + 3 := ⟨k - 3, by omega⟩
 obtain ⟨t, ht, ha⟩ := lay_deep n r h1 h2 (chain_sizes n r) (chain_right n r h1 (by omega)) (chain_k6 n r)
 rw [grommetlaw14_LayDeep.l0, if_neg (by omega)]
 unfold lay_Tree.f
 rw [ht, Option.map_some, Option.bind_some]
 dsimp only
 by_cases c : 64 < n
 ·
  rw [if_pos (by omega)]
  simp only [if_pos c]
  rw [if_pos trivial, same_none, Option.bind_some, if_pos rfl, alive14]; rfl
 rw [if_neg (by omega)]
 simp only [if_neg c]
 rw [if_pos trivial, ha (by omega)]
 have e : (((if r = true then nameB 1 else ⟨#[]⟩ : ByteArray).toList == ([97, 49] : List UInt8)) == r) = true := by
  cases r with
  | true => kernel_rfl
  | false => kernel_rfl
 rw [if_pos e, alive14]; rfl
theorem deep_go (n : Nat) (r : Bool) (h1 : 1 ≤ n) (h2 : n ≤ 90) : ∀ (d i K : Nat), n = i + d → d + 4 ≤ K → grommetlaw14_LayDeep.l0 K r (n : Int) (n : Int) (i : Int) (upC n r i) 0 = some true
 | 0, i, K, hi, hK => by
  obtain ⟨K, rfl⟩ : ∃ k, K = k + 1 := ⟨K - 1, by omega⟩
  have : i = n := by omega
  subst this
  rw [upC_all]
  exact deep_end i r h1 h2 K (by omega)
 | d + 1, i, K, hi, hK => by
  obtain ⟨K, rfl⟩ : ∃ k, K = k + 1 := ⟨K - 1, by omega⟩
  have e1 : wrap64 ((n : Int) - 1) = (n : Int) - 1 := by unfold wrap64; omega
  have e2 : wrap64 ((i : Int) + 1) = ((i + 1 : Nat) : Int) := by unfold wrap64; omega
  have e3 : (upC n r i).length < 2932031007402 := by rw [upC_len]; omega
  have ih := deep_go n r h1 h2 d (i + 1) K (by omega) (by omega)
  rw [upC_succ] at ih
  rw [grommetlaw14_LayDeep.l0, if_pos (by omega), e1, e2]
  by_cases c : (i : Int) = (n : Int) - 1
  rotate_left
  ·
   have c2 : ¬ i + 1 = n := by omega
   rw [if_neg c, if_pos e3]
   have e4 : nodeC n r i = ⟨5, ⟨#[]⟩, [((i + 1 : Nat) : Int)]⟩ := by unfold nodeC; rw [if_neg c2]; rfl
   rw [e4] at ih
   exact ih
  have c2 : i + 1 = n := by omega
  rw [if_pos c]
  cases r with
  | true =>
   rw [if_pos rfl, if_pos e3]
   have e4 : nodeC n true i = ⟨5, ⟨#[]⟩, [0]⟩ := by unfold nodeC; rw [if_pos c2, if_pos rfl]
   rw [e4] at ih
   exact ih
  | false =>
   rw [if_neg (by decide), if_pos e3]
   have e4 : nodeC n false i = ⟨5, ⟨#[]⟩, []⟩ := by unfold nodeC; rw [if_pos c2, if_neg (by decide)]
   rw [e4] at ih
   exact ih
theorem LayDeep (many : Int) (r : Bool) (hm : 0 ≤ many ∧ many ≤ 255) : ∃ K, grommetlaw14_LayDeep.f K many r = some true := by
 refine ⟨100, ?_⟩
 obtain ⟨m, rfl⟩ := Int.eq_ofNat_of_zero_le hm.1
 have e0 : wrap64 (m : Int) = (m : Int) := by unfold wrap64; omega
 have e1 : wrap64 (Int.tmod (wrap64 (m : Int)) 90 + 1) = ((m % 90 + 1 : Nat) : Int) := by
  rw [e0, Int.tmod_eq_emod_of_nonneg (by omega)]
  unfold wrap64
  omega
 unfold grommetlaw14_LayDeep.f
 rw [e1]
 have h := deep_go (m % 90 + 1) r (by omega) (by omega) (m % 90 + 1) 0 100 (by omega) (by omega)
 exact h
end Go.Proofs.YtnjcpoojgmpmeaaGreatDoor.Pure

/- Texts that stand behind one another, laid into one: what this claim needs of them. -/
import Derived.Test.YtnjcpoojgmpmeaaGreatDoorBZ1
import Derived.Test.YtnjcpoojgmpmeaaGreatDoorBZ3
import Derived.Test.YtnjcpoojgmpmeaaGreatDoorBZ4
import Derived.Test.YtnjcpoojgmpmeaaGreatDoorBZ5
import Derived.Test.YtnjcpoojgmpmeaaGreatDoorBZ2
import Derived.KernelRfl
import Derived.Lib.AtoiAllCases
import Derived.Lib.ItoaLen
namespace Go.Proofs.YtnjcpoojgmpmeaaGreatDoor.PX
open RowKit YtnjcpoojgmpmeaaGreatDoorW.PrintWords YtnjcpoojgmpmeaaGreatDoorW.PrintLast YtnjcpoojgmpmeaaGreatDoorW.PrintMore YtnjcpoojgmpmeaaGreatDoor YtnjcpoojgmpmeaaGreatDoor.Plug
attribute [local go_sem] max2_int min2_int max_two min_two max_three min_three max_four min_four   -- for this text's walks alone
set_option linter.unusedVariables false
set_option linter.unusedSimpArgs false
def grommetlaw14_LayBack.f (k : Nat) (l0_0 : List (S45)) (a0_1 : Int) : Option (Bool) := (grommetlaw14_large.f k l0_0 a0_1).bind fun t102 => (if t102 = true then ((grommetlaw14_alive.f).bind fun t103 => (some t103)) else ((lay_Tree.f l0_0 a0_1).bind fun bt104 => (if bt104.2.2.2.2 = 0 then ((graph_Compose.f bt104.1 bt104.2.1 bt104.2.2.1 bt104.2.2.2.1).bind fun bt114 => ((graph_Canon.f l0_0 a0_1).bind fun bt120 => ((flow_Right.f bt104.1 bt104.2.1 bt104.2.2.1 bt104.2.2.2.1).bind fun t126 => (if t126 = true then (if bt114.2.2 = 0 then (if bt120.2.2 = 0 then ((grommetref12_Same.f k bt114.1 bt114.2.1 bt120.1 bt120.2.1).bind fun t127 => (if t127 = true then ((grommetlaw14_alive.f).bind fun t128 => (some t128)) else (some false))) else (some false)) else (some false)) else (some false))))) else ((grommetref09_Same.f k bt104.1 bt104.2.1 bt104.2.2.1 bt104.2.2.2.1 0 (⟨#[]⟩ : ByteArray) (⟨#[]⟩ : ByteArray) ([] : List (S29))).bind fun t112 => (if t112 = true then ((grommetlaw14_alive.f).bind fun t113 => (some t113)) else (some false))))))
theorem qba0_ {P : Prop} (h_ : P := by first | ((repeat (first | (with_reducible first | exact HB.out | apply below_alloc | apply pw_below_drewN | apply below_drew1 | (refine Glob.below_set ?_ (by assumption) _ _ _)) | exact HB.out)); done) | (refine Drawn0.below ?_; repeat (first | exact Drawn0.refl _ | assumption | apply Drawn0.step))) : P := h_
theorem qba1_ {P : Prop} (h_ : P := by (with_reducible repeat (first | refine blk_drewN ?_ _ | refine blk_drew ?_ | refine blk_alloc ?_ _)); exact BK101.out) : P := h_
theorem qba2_ {P : Prop} (h_ : P := by repeat (first | (with_reducible first | exact HB.out | apply below_alloc | apply pw_below_drewN | apply below_drew1 | refine below_set ?_ GE101.out) | exact HB.out)) : P := h_
theorem qba3_ {P : Prop} (h_ : P := by repeat (first | (with_reducible first | exact HB.out | apply below_alloc | apply pw_below_drewN | apply below_drew1 | refine below_set ?_ GE101.out | refine below_set ?_ GE111.out | refine below_set ?_ GE119.out) | exact HB.out)) : P := h_
theorem qba4_ {P : Prop} (h_ : P := by (with_reducible repeat (first | refine blk_drewN ?_ _ | refine blk_drew ?_ | refine blk_alloc ?_ _)); refine blk_put (cs := #[.int .i64 t104, .string t105, .string t106, .slice none 0 0]) ?_ 3 _ rfl; (with_reducible repeat (first | refine blk_drewN ?_ _ | refine blk_drew ?_ | refine blk_alloc ?_ _)); refine blk_put (cs := #[.int .i64 t104, .string t105, .string (⟨#[]⟩ : ByteArray), .slice none 0 0]) ?_ 2 _ rfl; (with_reducible repeat (first | refine blk_drewN ?_ _ | refine blk_drew ?_ | refine blk_alloc ?_ _)); refine blk_put (cs := #[.int .i64 t104, .string (⟨#[]⟩ : ByteArray), .string (⟨#[]⟩ : ByteArray), .slice none 0 0]) ?_ 1 _ rfl; (with_reducible repeat (first | refine blk_drewN ?_ _ | refine blk_drew ?_ | refine blk_alloc ?_ _)); refine blk_put (cs := #[.int .i64 0, .string (⟨#[]⟩ : ByteArray), .string (⟨#[]⟩ : ByteArray), .slice none 0 0]) ?_ 0 _ rfl; (with_reducible repeat (first | refine blk_drewN ?_ _ | refine blk_drew ?_ | refine blk_alloc ?_ _)); exact BK111.out) : P := h_
theorem qba5_ {P : Prop} (h_ : P := by repeat (first | (with_reducible first | exact HB.out | apply below_alloc | apply pw_below_drewN | apply below_drew1 | refine below_set ?_ GE101.out | refine below_set ?_ GE111.out) | exact HB.out)) : P := h_
theorem qba6_ {P : Prop} (h_ : P := by (try simp only [List.map_toArray, List.map_cons, List.map_nil]); first | done | rfl | (simp only [List.length_drop, List.length_take]; rfl)) : P := h_
theorem qba7_ {P : Prop} (h_ : P := by (with_reducible repeat (first | refine blk_drewN ?_ _ | refine blk_drew ?_ | refine blk_alloc ?_ _)); refine blk_far ?_ NB101_111.out _; (with_reducible repeat (first | refine blk_drewN ?_ _ | refine blk_drew ?_ | refine blk_alloc ?_ _)); refine blk_far ?_ NB101_111.out _; (with_reducible repeat (first | refine blk_drewN ?_ _ | refine blk_drew ?_ | refine blk_alloc ?_ _)); refine blk_far ?_ NB101_111.out _; (with_reducible repeat (first | refine blk_drewN ?_ _ | refine blk_drew ?_ | refine blk_alloc ?_ _)); refine blk_far ?_ NB101_111.out _; (with_reducible repeat (first | refine blk_drewN ?_ _ | refine blk_drew ?_ | refine blk_alloc ?_ _)); exact BK101.out) : P := h_
theorem qba8_ {P : Prop} (h_ : P := by (with_reducible repeat (first | refine blk_drewN ?_ _ | refine blk_drew ?_ | refine blk_alloc ?_ _)); exact BK111.out) : P := h_
theorem qba9_ {P : Prop} (h_ : P := by repeat (first | (with_reducible first | exact HB.out | apply below_alloc | apply pw_below_drewN | apply below_drew1 | refine below_set ?_ GE101.out | refine below_set ?_ GE111.out | refine below_set ?_ GE119.out | refine below_set ?_ GE125.out) | exact HB.out)) : P := h_
theorem qba10_ {P : Prop} (h_ : P := by repeat (first | (with_reducible first | exact HB.out | apply below_alloc | apply pw_below_drewN | apply below_drew1) | exact HB.out)) : P := h_
theorem qba11_ {P : Prop} (h_ : P := by (with_reducible repeat (first | apply Kd.R_alloc | apply Kd.R_drewN | apply Kd.R_drew)); exact HO109.out) : P := h_
theorem qba12_ {P : Prop} (h_ : P := by (with_reducible repeat (first | refine blk_drewN ?_ _ | refine blk_drew ?_ | refine blk_alloc ?_ _)); exact BK119.out) : P := h_
theorem qba13_ {P : Prop} (h_ : P := by (with_reducible repeat (first | refine blk_drewN ?_ _ | refine blk_drew ?_ | refine blk_alloc ?_ _)); refine blk_far ?_ NB119_125.out _; (with_reducible repeat (first | refine blk_drewN ?_ _ | refine blk_drew ?_ | refine blk_alloc ?_ _)); refine blk_far ?_ NB119_125.out _; (with_reducible repeat (first | refine blk_drewN ?_ _ | refine blk_drew ?_ | refine blk_alloc ?_ _)); exact BK119.out) : P := h_
theorem qba14_ {P : Prop} (h_ : P := by (with_reducible repeat (first | refine blk_drewN ?_ _ | refine blk_drew ?_ | refine blk_alloc ?_ _)); refine blk_far ?_ NB111_125.out _; (with_reducible repeat (first | refine blk_drewN ?_ _ | refine blk_drew ?_ | refine blk_alloc ?_ _)); refine blk_far ?_ NB111_125.out _; (with_reducible repeat (first | refine blk_drewN ?_ _ | refine blk_drew ?_ | refine blk_alloc ?_ _)); exact BK111.out) : P := h_
theorem qba15_ {P : Prop} (h_ : P := by (with_reducible repeat (first | refine blk_drewN ?_ _ | refine blk_drew ?_ | refine blk_alloc ?_ _)); refine blk_far ?_ NB111_119.out _; (with_reducible repeat (first | refine blk_drewN ?_ _ | refine blk_drew ?_ | refine blk_alloc ?_ _)); refine blk_far ?_ NB111_119.out _; (with_reducible repeat (first | refine blk_drewN ?_ _ | refine blk_drew ?_ | refine blk_alloc ?_ _)); exact BK111.out) : P := h_
theorem qba16_ {P : Prop} (h_ : P := by (with_reducible repeat (first | refine blk_drewN ?_ _ | refine blk_drew ?_ | refine blk_alloc ?_ _)); refine blk_far ?_ NB101_125.out _; (with_reducible repeat (first | refine blk_drewN ?_ _ | refine blk_drew ?_ | refine blk_alloc ?_ _)); refine blk_far ?_ NB101_125.out _; (with_reducible repeat (first | refine blk_drewN ?_ _ | refine blk_drew ?_ | refine blk_alloc ?_ _)); exact BK101.out) : P := h_
theorem qba17_ {P : Prop} (h_ : P := by (with_reducible repeat (first | refine blk_drewN ?_ _ | refine blk_drew ?_ | refine blk_alloc ?_ _)); refine blk_far ?_ NB101_119.out _; (with_reducible repeat (first | refine blk_drewN ?_ _ | refine blk_drew ?_ | refine blk_alloc ?_ _)); refine blk_far ?_ NB101_119.out _; (with_reducible repeat (first | refine blk_drewN ?_ _ | refine blk_drew ?_ | refine blk_alloc ?_ _)); exact BK101.out) : P := h_
theorem qba18_ {P : Prop} (h_ : P := by (with_reducible repeat (first | apply Kd.S_alloc | apply Kd.S_drewN | apply Kd.S_drew)); exact HO116.out) : P := h_
theorem qba19_ {P : Prop} (h_ : P := by (with_reducible repeat (first | apply Kd.S_alloc | apply Kd.S_drewN | apply Kd.S_drew)); exact HO122.out) : P := h_
theorem qba20_ {P : Prop} (h_ : P := by first | rfl | (simp [errW_none, errW_some] <;> rfl) | (simp [*, errW_none, errW_some] <;> rfl)) : P := h_
theorem qba21_ {P : Prop} (h_ : P := by (with_reducible repeat (first | apply Kd.R_alloc | apply Kd.R_drewN | apply Kd.R_drew)); exact (Kd.R_mono (Kd.R_far (p := ⟨gb111, 3, none⟩) (Kd.R_far (p := ⟨gb111, 2, none⟩) (Kd.R_far (p := ⟨gb111, 1, none⟩) (Kd.R_far (p := ⟨gb111, 0, none⟩) (Kd.R_mono HO109.out (fun k_ hk => (⟨hk, hk.2⟩ : _ ∧ k_ ≠ gb111))) (fun _ hk => hk.2) (.int .i64 t104)) (fun _ hk => hk.2) (.string t105)) (fun _ hk => hk.2) (.string t106)) (fun _ hk => hk.2) (.slice Ao174 t107.length co174)) (fun _ h_ => h_.1))) : P := h_
theorem qba22_ {P : Prop} (h_ : P := by (with_reducible repeat (first | apply Kd.R_alloc | apply Kd.R_drewN | apply Kd.R_drew)); exact (Kd.R_mono (Kd.R_far (p := ⟨gb111, 3, none⟩) (Kd.R_far (p := ⟨gb111, 2, none⟩) (Kd.R_far (p := ⟨gb111, 1, none⟩) (Kd.R_far (p := ⟨gb111, 0, none⟩) (Kd.R_mono HO109.out (fun k_ hk => (⟨hk, hk.2⟩ : _ ∧ k_ ≠ gb111))) (fun _ hk => hk.2) (.int .i64 t104)) (fun _ hk => hk.2) (.string t105)) (fun _ hk => hk.2) (.string t106)) (fun _ hk => hk.2) (.slice Ao163 t107.length co163)) (fun _ h_ => h_.1))) : P := h_
theorem qba23_ {P : Prop} (h_ : P := by (with_reducible repeat (first | apply Kd.R_alloc | apply Kd.R_drewN | apply Kd.R_drew)); exact (Kd.R_mono (Kd.R_far (p := ⟨gb111, 3, none⟩) (Kd.R_far (p := ⟨gb111, 2, none⟩) (Kd.R_far (p := ⟨gb111, 1, none⟩) (Kd.R_far (p := ⟨gb111, 0, none⟩) (Kd.R_mono HO109.out (fun k_ hk => (⟨hk, hk.2⟩ : _ ∧ k_ ≠ gb111))) (fun _ hk => hk.2) (.int .i64 t104)) (fun _ hk => hk.2) (.string t105)) (fun _ hk => hk.2) (.string t106)) (fun _ hk => hk.2) (.slice Ao135 t107.length co135)) (fun _ h_ => h_.1))) : P := h_
theorem qba24_ {P : Prop} (h_ : P := by (with_reducible repeat (first | apply Kd.R_alloc | apply Kd.R_drewN | apply Kd.R_drew)); exact (Kd.R_mono (Kd.R_far (p := ⟨gb111, 3, none⟩) (Kd.R_far (p := ⟨gb111, 2, none⟩) (Kd.R_far (p := ⟨gb111, 1, none⟩) (Kd.R_far (p := ⟨gb111, 0, none⟩) (Kd.R_mono HO109.out (fun k_ hk => (⟨hk, hk.2⟩ : _ ∧ k_ ≠ gb111))) (fun _ hk => hk.2) (.int .i64 t104)) (fun _ hk => hk.2) (.string t105)) (fun _ hk => hk.2) (.string t106)) (fun _ hk => hk.2) (.slice Ao110 t107.length co110)) (fun _ h_ => h_.1))) : P := h_
theorem qba25_ {P : Prop} (h_ : P := by (with_reducible repeat (first | apply Kd.R_alloc | apply Kd.R_drewN | apply Kd.R_drew)); exact (Kd.R_mono (Kd.R_far (p := ⟨gb111, 3, none⟩) (Kd.R_far (p := ⟨gb111, 2, none⟩) (Kd.R_far (p := ⟨gb111, 1, none⟩) (Kd.R_far (p := ⟨gb111, 0, none⟩) (Kd.R_mono HO109.out (fun k_ hk => (⟨hk, hk.2⟩ : _ ∧ k_ ≠ gb111))) (fun _ hk => hk.2) (.int .i64 t104)) (fun _ hk => hk.2) (.string t105)) (fun _ hk => hk.2) (.string t106)) (fun _ hk => hk.2) (.slice Ao85 t107.length co85)) (fun _ h_ => h_.1))) : P := h_
theorem qba26_ {P : Prop} (h_ : P := by (with_reducible repeat (first | apply Kd.R_alloc | apply Kd.R_drewN | apply Kd.R_drew)); exact (Kd.R_mono (Kd.R_far (p := ⟨gb111, 3, none⟩) (Kd.R_far (p := ⟨gb111, 2, none⟩) (Kd.R_far (p := ⟨gb111, 1, none⟩) (Kd.R_far (p := ⟨gb111, 0, none⟩) (Kd.R_mono HO109.out (fun k_ hk => (⟨hk, hk.2⟩ : _ ∧ k_ ≠ gb111))) (fun _ hk => hk.2) (.int .i64 t104)) (fun _ hk => hk.2) (.string t105)) (fun _ hk => hk.2) (.string t106)) (fun _ hk => hk.2) (.slice Ao57 t107.length co57)) (fun _ h_ => h_.1))) : P := h_
theorem qba27_ {P : Prop} (h_ : P := by (with_reducible repeat (first | apply Kd.R_alloc | apply Kd.R_drewN | apply Kd.R_drew)); exact (Kd.R_mono (Kd.R_far (p := ⟨gb111, 3, none⟩) (Kd.R_far (p := ⟨gb111, 2, none⟩) (Kd.R_far (p := ⟨gb111, 1, none⟩) (Kd.R_far (p := ⟨gb111, 0, none⟩) (Kd.R_mono HO109.out (fun k_ hk => (⟨hk, hk.2⟩ : _ ∧ k_ ≠ gb111))) (fun _ hk => hk.2) (.int .i64 t104)) (fun _ hk => hk.2) (.string t105)) (fun _ hk => hk.2) (.string t106)) (fun _ hk => hk.2) (.slice Ao28 t107.length co28)) (fun _ h_ => h_.1))) : P := h_
theorem qba28_ {P : Prop} (h_ : P := by (with_reducible repeat (first | apply Kd.S_alloc | apply Kd.S_drewN | apply Kd.S_drew)); exact (Kd.S_mono (Kd.S_far (p := ⟨gb119, 1, none⟩) (Kd.S_far (p := ⟨gb119, 0, none⟩) (Kd.S_types HO116.out BK119.out (by decide)) (fun _ hk => hk.2) (.slice Ao138 t114.length co138)) (fun _ hk => hk.2) (.int .i64 t117)) (fun _ h_ => h_.1))) : P := h_
theorem qba29_ {P : Prop} (h_ : P := by (with_reducible repeat (first | apply Kd.S_alloc | apply Kd.S_drewN | apply Kd.S_drew)); exact (Kd.S_mono (Kd.S_far (p := ⟨gb119, 1, none⟩) (Kd.S_far (p := ⟨gb119, 0, none⟩) (Kd.S_types HO116.out BK119.out (by decide)) (fun _ hk => hk.2) (.slice Ao113 t114.length co113)) (fun _ hk => hk.2) (.int .i64 t117)) (fun _ h_ => h_.1))) : P := h_
theorem qba30_ {P : Prop} (h_ : P := by (with_reducible repeat (first | apply Kd.R_alloc | apply Kd.R_drewN | apply Kd.R_drew)); exact (Kd.R_mono (Kd.R_far (p := ⟨gb125, 1, none⟩) (Kd.R_far (p := ⟨gb125, 0, none⟩) (Kd.R_types HO109.out BK125.out (by decide)) (fun _ hk => hk.2) (.slice Ao145 t120.length co145)) (fun _ hk => hk.2) (.int .i64 t123)) (fun _ h_ => h_.1))) : P := h_
theorem qba31_ {P : Prop} (h_ : P := by (with_reducible repeat (first | apply Kd.R_alloc | apply Kd.R_drewN | apply Kd.R_drew)); exact (Kd.R_mono (Kd.R_far (p := ⟨gb125, 1, none⟩) (Kd.R_far (p := ⟨gb125, 0, none⟩) (Kd.R_types HO109.out BK125.out (by decide)) (fun _ hk => hk.2) (.slice Ao120 t120.length co120)) (fun _ hk => hk.2) (.int .i64 t123)) (fun _ h_ => h_.1))) : P := h_
theorem qba32_ {P : Prop} (h_ : P := by (with_reducible repeat (first | apply Kd.S_alloc | apply Kd.S_drewN | apply Kd.S_drew)); exact (Kd.S_mono (Kd.S_far (p := ⟨gb119, 1, none⟩) (Kd.S_far (p := ⟨gb119, 0, none⟩) (Kd.S_types HO116.out BK119.out (by decide)) (fun _ hk => hk.2) (.slice Ao88 t114.length co88)) (fun _ hk => hk.2) (.int .i64 t117)) (fun _ h_ => h_.1))) : P := h_
theorem qba33_ {P : Prop} (h_ : P := by (with_reducible repeat (first | apply Kd.S_alloc | apply Kd.S_drewN | apply Kd.S_drew)); exact (Kd.S_mono (Kd.S_far (p := ⟨gb119, 1, none⟩) (Kd.S_far (p := ⟨gb119, 0, none⟩) (Kd.S_types HO116.out BK119.out (by decide)) (fun _ hk => hk.2) (.slice Ao60 t114.length co60)) (fun _ hk => hk.2) (.int .i64 t117)) (fun _ h_ => h_.1))) : P := h_
theorem qba34_ {P : Prop} (h_ : P := by (with_reducible repeat (first | apply Kd.S_alloc | apply Kd.S_drewN | apply Kd.S_drew)); exact (Kd.S_mono (Kd.S_far (p := ⟨gb119, 1, none⟩) (Kd.S_far (p := ⟨gb119, 0, none⟩) (Kd.S_types HO116.out BK119.out (by decide)) (fun _ hk => hk.2) (.slice Ao31 t114.length co31)) (fun _ hk => hk.2) (.int .i64 t117)) (fun _ h_ => h_.1))) : P := h_
theorem qba35_ {P : Prop} (h_ : P := by (with_reducible repeat (first | apply Kd.R_alloc | apply Kd.R_drewN | apply Kd.R_drew)); exact (Kd.R_mono (Kd.R_far (p := ⟨gb125, 1, none⟩) (Kd.R_far (p := ⟨gb125, 0, none⟩) (Kd.R_types HO109.out BK125.out (by decide)) (fun _ hk => hk.2) (.slice Ao95 t120.length co95)) (fun _ hk => hk.2) (.int .i64 t123)) (fun _ h_ => h_.1))) : P := h_
theorem qba36_ {P : Prop} (h_ : P := by (with_reducible repeat (first | apply Kd.R_alloc | apply Kd.R_drewN | apply Kd.R_drew)); exact (Kd.R_mono (Kd.R_far (p := ⟨gb125, 1, none⟩) (Kd.R_far (p := ⟨gb125, 0, none⟩) (Kd.R_types HO109.out BK125.out (by decide)) (fun _ hk => hk.2) (.slice Ao67 t120.length co67)) (fun _ hk => hk.2) (.int .i64 t123)) (fun _ h_ => h_.1))) : P := h_
theorem qba37_ {P : Prop} (h_ : P := by (with_reducible repeat (first | apply Kd.R_alloc | apply Kd.R_drewN | apply Kd.R_drew)); exact (Kd.R_mono (Kd.R_far (p := ⟨gb125, 1, none⟩) (Kd.R_far (p := ⟨gb125, 0, none⟩) (Kd.R_types HO109.out BK125.out (by decide)) (fun _ hk => hk.2) (.slice Ao38 t120.length co38)) (fun _ hk => hk.2) (.int .i64 t123)) (fun _ h_ => h_.1))) : P := h_
theorem qba38_ {P : Prop} (h_ : P := by (with_reducible repeat (first | refine blk_drewN ?_ _ | refine blk_drew ?_ | refine blk_alloc ?_ _)); exact BK125.out) : P := h_
theorem qba39_ {P : Prop} (h_ : P := by repeat (first | exact (Kd.C_below HR0_0.out HB.out) | (with_reducible refine Kd.C_alloc ?_ _) | (with_reducible refine Kd.C_drewN ?_ _) | (with_reducible refine Kd.C_drew ?_))) : P := h_
theorem qba40_ {P : Prop} (h_ : P := by exact (Kd.R_reads' HO109.out).2.1) : P := h_
set_option maxHeartbeats 8000000 in
set_option maxRecDepth 100000 in
theorem grommetlaw14_LayBack.calls (k : Nat) (A0_0 : Option Addr) (c0_0 : Nat) (l0_0 : List (S45)) (a0_1 : Int) (r : Bool) (w : World) (hr0_0 : Kd.C k45 w A0_0 l0_0.length l0_0) (hc0_0 : l0_0.length ≤ c0_0) (hG : Glob.G w) (h : grommetlaw14_LayBack.f k l0_0 a0_1 = some r) :
  Calls Tryz.prog 7 #[.agg #[.slice A0_0 l0_0.length c0_0, .int .i64 a0_1]] w fun e w' => e = .returned (.bool r) ∧ Below w.heap.size w w' := by
 have hu24 := Tryz.underlying24
 have hu29 := Tryz.underlying29
 have HR0_0 := Aside0.mk hr0_0
 have HC0_0 := Aside0.mk hc0_0
 clear hr0_0 hc0_0
 have HB := Aside0.mk (Below.refl w.heap.size w)
 have H : ((grommetlaw14_large.f k l0_0 a0_1).bind fun t102 => (if t102 = true then ((grommetlaw14_alive.f).bind fun t103 => (some t103)) else ((lay_Tree.f l0_0 a0_1).bind fun bt104 => (if bt104.2.2.2.2 = 0 then ((graph_Compose.f bt104.1 bt104.2.1 bt104.2.2.1 bt104.2.2.2.1).bind fun bt114 => ((graph_Canon.f l0_0 a0_1).bind fun bt120 => ((flow_Right.f bt104.1 bt104.2.1 bt104.2.2.1 bt104.2.2.2.1).bind fun t126 => (if t126 = true then (if bt114.2.2 = 0 then (if bt120.2.2 = 0 then ((grommetref12_Same.f k bt114.1 bt114.2.1 bt120.1 bt120.2.1).bind fun t127 => (if t127 = true then ((grommetlaw14_alive.f).bind fun t128 => (some t128)) else (some false))) else (some false)) else (some false)) else (some false))))) else ((grommetref09_Same.f k bt104.1 bt104.2.1 bt104.2.2.1 bt104.2.2.2.1 0 (⟨#[]⟩ : ByteArray) (⟨#[]⟩ : ByteArray) ([] : List (S29))).bind fun t112 => (if t112 = true then ((grommetlaw14_alive.f).bind fun t113 => (some t113)) else (some false))))))) = some r := h
 clear h
 replace H := Option.bind_eq_some_iff.mp H
 obtain ⟨t102, A20, H⟩ := H
 replace H : (if t102 = true then ((grommetlaw14_alive.f).bind fun t103 => (some t103)) else ((lay_Tree.f l0_0 a0_1).bind fun bt104 => (if bt104.2.2.2.2 = 0 then ((graph_Compose.f bt104.1 bt104.2.1 bt104.2.2.1 bt104.2.2.2.1).bind fun bt114 => ((graph_Canon.f l0_0 a0_1).bind fun bt120 => ((flow_Right.f bt104.1 bt104.2.1 bt104.2.2.1 bt104.2.2.2.1).bind fun t126 => (if t126 = true then (if bt114.2.2 = 0 then (if bt120.2.2 = 0 then ((grommetref12_Same.f k bt114.1 bt114.2.1 bt120.1 bt120.2.1).bind fun t127 => (if t127 = true then ((grommetlaw14_alive.f).bind fun t128 => (some t128)) else (some false))) else (some false)) else (some false)) else (some false))))) else ((grommetref09_Same.f k bt104.1 bt104.2.1 bt104.2.2.1 bt104.2.2.2.1 0 (⟨#[]⟩ : ByteArray) (⟨#[]⟩ : ByteArray) ([] : List (S29))).bind fun t112 => (if t112 = true then ((grommetlaw14_alive.f).bind fun t113 => (some t113)) else (some false)))))) = some r := H
 have A2 := Aside0.mk A20
 clear A20
 by_cases c3 : t102 = true
 ·
  subst c3
  have H1 : ((grommetlaw14_alive.f).bind fun t103 => (some t103)) = some r := by rw [if_pos rfl] at H; exact H
  clear H
  have H := H1
  clear H1
  replace H := Option.bind_eq_some_iff.mp H
  obtain ⟨t103, A40, H⟩ := H
  replace H : (some t103) = some r := H
  have A4 := Aside0.mk A40
  clear A40
  obtain rfl := Option.some.inj H
  go_enter Tryz.func7, Tryz.ntmps7
  go_wp2_with (first | ((with_reducible refine gate_dst (N := 1) rfl ?_); refine box_event ?hg (N := 1) ?hd (cs := #[.slice A0_0 l0_0.length c0_0, .int .i64 a0_1]) (t := 24) ?hr ?_; (case hd => rfl); (case hg => rfl); (case hr => first | (go_simp; done) | (go_simp; rfl)); intro gb101 hg w5 hbox hb; have n0_ := Aside0.mk (below_step (qba10_) hb); have n1_ := Aside0.mk (hbox); have n2_ := Aside0.mk ((by rw [hg]; exact (below_size (qba10_)) : w.heap.size ≤ gb101)); have n3_ := Aside0.mk ((by rw [hg]; exact (below_size (qba10_)) : w.heap.size ≤ gb101)); clear HB; have HB := n0_; have BK101 := n1_; have GW101 := n2_; have GE101 := n3_; clear n0_ n1_ n2_ n3_; clear hb hbox hg; have hcz6_0 : w5.cell? ⟨gb101, 0, none⟩ = some (.slice A0_0 l0_0.length c0_0) := (blk_cell BK101.out 0).trans rfl; have hcz6_1 : w5.cell? ⟨gb101, 1, none⟩ = some (.int .i64 a0_1) := (blk_cell BK101.out 1).trans rfl; have hfz6_0 := blk_frozen BK101.out 0; have hfz6_1 := blk_frozen BK101.out 1) | ((with_reducible refine gate_callee (f := 9) rfl ?_); refine goesL_ (some 10) rfl rfl Tryz.func9 (by kernel_rfl) rfl #[.agg #[.slice A0_0 l0_0.length c0_0, .int .i64 a0_1]] rfl (qba6_) ?_; (with_reducible refine (grommetlaw14_large.calls k _ _ l0_0 a0_1 true _ ?side1 ?side2 (hG.below (qba0_)) A2.out).mono ?_); (case side1 => exact qba39_); (case side2 => exact HC0_0.out); rintro e w7 ⟨rfl, hb⟩; refine ⟨_, rfl, ?_⟩; have n0_ := Aside0.mk (blk_below (g := gb101) (o := .cells #[.slice A0_0 l0_0.length c0_0, .int .i64 a0_1] 24 (0, 0)) (qba1_) hb); have n1_ := Aside0.mk (below_step (qba2_) hb); clear BK101; clear HB; have BK101 := n0_; have HB := n1_; clear n0_ n1_; (try clear hb); (try clear hk)) | ((with_reducible refine gate_callee (f := 10) rfl ?_); refine goesL_ (some 11) rfl rfl Tryz.func10 (by kernel_rfl) rfl #[] rfl (qba6_) ?_; (with_reducible refine (grommetlaw14_alive.calls  t103 _ (hG.below (qba0_)) A4.out).mono ?_); rintro e w8 ⟨rfl, hb⟩; refine ⟨_, rfl, ?_⟩; have n0_ := Aside0.mk (blk_below (g := gb101) (o := .cells #[.slice A0_0 l0_0.length c0_0, .int .i64 a0_1] 24 (0, 0)) (qba1_) hb); have n1_ := Aside0.mk (below_step (qba2_) hb); clear BK101; clear HB; have BK101 := n0_; have HB := n1_; clear n0_ n1_; (try clear hb); (try clear hk)))
  go_ret
  exact ⟨qba20_, qba2_⟩
 replace c3 := Bool.eq_false_iff.mpr c3
 subst c3
 have H1 : ((lay_Tree.f l0_0 a0_1).bind fun bt104 => (if bt104.2.2.2.2 = 0 then ((graph_Compose.f bt104.1 bt104.2.1 bt104.2.2.1 bt104.2.2.2.1).bind fun bt114 => ((graph_Canon.f l0_0 a0_1).bind fun bt120 => ((flow_Right.f bt104.1 bt104.2.1 bt104.2.2.1 bt104.2.2.2.1).bind fun t126 => (if t126 = true then (if bt114.2.2 = 0 then (if bt120.2.2 = 0 then ((grommetref12_Same.f k bt114.1 bt114.2.1 bt120.1 bt120.2.1).bind fun t127 => (if t127 = true then ((grommetlaw14_alive.f).bind fun t128 => (some t128)) else (some false))) else (some false)) else (some false)) else (some false))))) else ((grommetref09_Same.f k bt104.1 bt104.2.1 bt104.2.2.1 bt104.2.2.2.1 0 (⟨#[]⟩ : ByteArray) (⟨#[]⟩ : ByteArray) ([] : List (S29))).bind fun t112 => (if t112 = true then ((grommetlaw14_alive.f).bind fun t113 => (some t113)) else (some false))))) = some r := by rw [if_neg (show ¬ (false = true) by decide)] at H; exact H
 clear H
 have H := H1
 clear H1
 replace H := Option.bind_eq_some_iff.mp H
 obtain ⟨⟨t104, t105, t106, t107, t110⟩, A90, H⟩ := H
 replace H : (if t110 = 0 then ((graph_Compose.f t104 t105 t106 t107).bind fun bt114 => ((graph_Canon.f l0_0 a0_1).bind fun bt120 => ((flow_Right.f t104 t105 t106 t107).bind fun t126 => (if t126 = true then (if bt114.2.2 = 0 then (if bt120.2.2 = 0 then ((grommetref12_Same.f k bt114.1 bt114.2.1 bt120.1 bt120.2.1).bind fun t127 => (if t127 = true then ((grommetlaw14_alive.f).bind fun t128 => (some t128)) else (some false))) else (some false)) else (some false)) else (some false))))) else ((grommetref09_Same.f k t104 t105 t106 t107 0 (⟨#[]⟩ : ByteArray) (⟨#[]⟩ : ByteArray) ([] : List (S29))).bind fun t112 => (if t112 = true then ((grommetlaw14_alive.f).bind fun t113 => (some t113)) else (some false)))) = some r := H
 have A9 := Aside0.mk A90
 clear A90
 by_cases c10 : t110 = 0
 rotate_left
 ·
  rw [if_neg c10] at H
  have c10b0 : (t110 == 0) = false := beq_eq_false_iff_ne.mpr c10
  have c10b1 : (t110 != 0) = true := bne_iff_ne.mpr c10
  replace H := Option.bind_eq_some_iff.mp H
  obtain ⟨t112, A1520, H⟩ := H
  replace H : (if t112 = true then ((grommetlaw14_alive.f).bind fun t113 => (some t113)) else (some false)) = some r := H
  have A152 := Aside0.mk A1520
  clear A1520
  by_cases c153 : t112 = true
  rotate_left
  ·
   replace c153 := Bool.eq_false_iff.mpr c153
   subst c153
   have H1 : (some false) = some r := by rw [if_neg (show ¬ (false = true) by decide)] at H; exact H
   clear H
   have H := H1
   clear H1
   obtain rfl := Option.some.inj H
   go_enter Tryz.func7, Tryz.ntmps7
   go_wp2_with (first | ((with_reducible refine gate_dst (N := 1) rfl ?_); refine box_event ?hg (N := 1) ?hd (cs := #[.slice A0_0 l0_0.length c0_0, .int .i64 a0_1]) (t := 24) ?hr ?_; (case hd => rfl); (case hg => rfl); (case hr => first | (go_simp; done) | (go_simp; rfl)); intro gb101 hg w166 hbox hb; have n0_ := Aside0.mk (below_step (qba10_) hb); have n1_ := Aside0.mk (hbox); have n2_ := Aside0.mk ((by rw [hg]; exact (below_size (qba10_)) : w.heap.size ≤ gb101)); have n3_ := Aside0.mk ((by rw [hg]; exact (below_size (qba10_)) : w.heap.size ≤ gb101)); clear HB; have HB := n0_; have BK101 := n1_; have GW101 := n2_; have GE101 := n3_; clear n0_ n1_ n2_ n3_; clear hb hbox hg; have hcz167_0 : w166.cell? ⟨gb101, 0, none⟩ = some (.slice A0_0 l0_0.length c0_0) := (blk_cell BK101.out 0).trans rfl; have hcz167_1 : w166.cell? ⟨gb101, 1, none⟩ = some (.int .i64 a0_1) := (blk_cell BK101.out 1).trans rfl; have hfz167_0 := blk_frozen BK101.out 0; have hfz167_1 := blk_frozen BK101.out 1) | ((with_reducible refine gate_callee (f := 9) rfl ?_); refine goesL_ (some 10) rfl rfl Tryz.func9 (by kernel_rfl) rfl #[.agg #[.slice A0_0 l0_0.length c0_0, .int .i64 a0_1]] rfl (qba6_) ?_; (with_reducible refine (grommetlaw14_large.calls k _ _ l0_0 a0_1 false _ ?side1 ?side2 (hG.below (qba0_)) A2.out).mono ?_); (case side1 => exact qba39_); (case side2 => exact HC0_0.out); rintro e w168 ⟨rfl, hb⟩; refine ⟨_, rfl, ?_⟩; have n0_ := Aside0.mk (blk_below (g := gb101) (o := .cells #[.slice A0_0 l0_0.length c0_0, .int .i64 a0_1] 24 (0, 0)) (qba1_) hb); have n1_ := Aside0.mk (below_step (qba2_) hb); clear BK101; clear HB; have BK101 := n0_; have HB := n1_; clear n0_ n1_; (try clear hb); (try clear hk); have hcz169_0 : w168.cell? ⟨gb101, 0, none⟩ = some (.slice A0_0 l0_0.length c0_0) := (blk_cell BK101.out 0).trans rfl; have hcz169_1 : w168.cell? ⟨gb101, 1, none⟩ = some (.int .i64 a0_1) := (blk_cell BK101.out 1).trans rfl; have hfz169_0 := blk_frozen BK101.out 0; have hfz169_1 := blk_frozen BK101.out 1) | ((with_reducible refine gate_callee (f := 11) rfl ?_); refine goesL_ (some 14) rfl rfl Tryz.func11 (by kernel_rfl) rfl #[.agg #[.slice A0_0 l0_0.length c0_0, .int .i64 a0_1]] rfl (qba6_) ?_; (with_reducible refine (lay_Tree.calls _ _ l0_0 a0_1 t104 t105 t106 t107 t110 _ ?side1 ?side2 (hG.below (qba0_)) A9.out).mono ?_); (case side1 => exact qba39_); (case side2 => exact HC0_0.out); rintro e w170 ⟨v108, rfl, ho0, hb⟩; refine ⟨_, rfl, ?_⟩; have n0_ := Aside0.mk (Kd.R_lower ho0 (below_size (qba2_))); have n1_ := Aside0.mk (blk_below (g := gb101) (o := .cells #[.slice A0_0 l0_0.length c0_0, .int .i64 a0_1] 24 (0, 0)) (qba1_) hb); have n2_ := Aside0.mk (below_step (qba2_) hb); clear BK101; clear HB; have HO109 := n0_; have BK101 := n1_; have HB := n2_; clear n0_ n1_ n2_; (try clear hb); (try clear hk); (try clear ho0)) | ((with_reducible refine gate_dst (N := 3) rfl ?_); refine box_event ?hg (N := 3) ?hd (cs := #[.int .i64 0, .string (⟨#[]⟩ : ByteArray), .string (⟨#[]⟩ : ByteArray), .slice none 0 0]) (t := 29) ?hr ?_; (case hd => rfl); (case hg => rfl); (case hr => first | (go_simp; done) | (go_simp; rfl)); intro gb111 hg w171 hbox hb; have n0_ := Aside0.mk (Kd.R_below (Kd.R_elderB (qba11_) gb111 (Nat.le_of_eq hg.symm)) hb); have n1_ := Aside0.mk (blk_below (g := gb101) (o := .cells #[.slice A0_0 l0_0.length c0_0, .int .i64 a0_1] 24 (0, 0)) (qba1_) hb); have n2_ := Aside0.mk (below_step (qba2_) hb); have n3_ := Aside0.mk (hbox); have n4_ := Aside0.mk ((by rw [hg]; exact (below_size (qba2_)) : w.heap.size ≤ gb111)); have n5_ := Aside0.mk ((by rw [hg]; exact (below_size (qba2_)) : w.heap.size ≤ gb111)); have n6_ := Aside0.mk ((by rw [hg]; exact Nat.ne_of_lt (blk_lt (g := gb101) (o := .cells #[.slice A0_0 l0_0.length c0_0, .int .i64 a0_1] 24 (0, 0)) (qba1_)) : gb101 ≠ gb111)); have n7_ := Aside0.mk ((by rw [hg]; exact Nat.ne_of_gt (blk_lt (g := gb101) (o := .cells #[.slice A0_0 l0_0.length c0_0, .int .i64 a0_1] 24 (0, 0)) (qba1_)) : gb111 ≠ gb101)); clear HO109; clear BK101; clear HB; have HO109 := n0_; have BK101 := n1_; have HB := n2_; have BK111 := n3_; have GW111 := n4_; have GE111 := n5_; have NB101_111 := n6_; have NB111_101 := n7_; clear n0_ n1_ n2_ n3_ n4_ n5_ n6_ n7_; clear hb hbox hg; have hnb172 := NB111_101.out; have hnc172 := NB101_111.out; have hcz173_0 : w171.cell? ⟨gb111, 0, none⟩ = some (.int .i64 0) := (blk_cell BK111.out 0).trans rfl; have hcz173_1 : w171.cell? ⟨gb111, 1, none⟩ = some (.string (⟨#[]⟩ : ByteArray)) := (blk_cell BK111.out 1).trans rfl; have hcz173_2 : w171.cell? ⟨gb111, 2, none⟩ = some (.string (⟨#[]⟩ : ByteArray)) := (blk_cell BK111.out 2).trans rfl; have hcz173_3 : w171.cell? ⟨gb111, 3, none⟩ = some (.slice none 0 0) := (blk_cell BK111.out 3).trans rfl; have hfz173_0 := blk_frozen BK111.out 0; have hfz173_1 := blk_frozen BK111.out 1; have hfz173_2 := blk_frozen BK111.out 2; have hfz173_3 := blk_frozen BK111.out 3; obtain ⟨Ao174, co174, eo174⟩ := Kd.R_slice HO109.out; subst eo174) | ((with_reducible refine gate_callee (f := 15) rfl ?_); refine goesL_ (some 21) rfl rfl Tryz.func15 (by kernel_rfl) rfl #[.agg #[.int .i64 t104, .string t105, .string t106, .slice Ao174 t107.length co174], .agg #[.int .i64 0, .string (⟨#[]⟩ : ByteArray), .string (⟨#[]⟩ : ByteArray), .slice none 0 0]] rfl (qba6_) ?_; (refine (grommetref09_Same.calls k t104 t105 t106 _ _ t107 0 (⟨#[]⟩ : ByteArray) (⟨#[]⟩ : ByteArray) _ _ ([] : List (S29)) false _ ?side1 ?side2 ?side3 ?side4 (hG.below (qba0_)) A152.out).mono ?_); (case side1 => refine (Kd.R_reads' (e := 29) (base := w.heap.size) (ok := fun k_ => (True ∧ k_ ≠ gb111)) (n := t107.length) (c := co174) ?_).2.2; exact (qba21_)); (case side2 => exact qba40_); (case side3 => exact Kd.C_nil _ _); (case side4 => exact Nat.le_refl _); rintro e w175 ⟨rfl, hb⟩; refine ⟨_, rfl, ?_⟩; have n0_ := Aside0.mk (Kd.R_below (qba21_) hb); have n1_ := Aside0.mk (blk_below (g := gb101) (o := .cells #[.slice A0_0 l0_0.length c0_0, .int .i64 a0_1] 24 (0, 0)) (qba7_) hb); have n2_ := Aside0.mk (blk_below (g := gb111) (o := .cells #[.int .i64 t104, .string t105, .string t106, .slice Ao174 t107.length co174] 29 (0, 0)) (qba4_) hb); have n3_ := Aside0.mk (below_step (qba5_) hb); clear HO109; clear BK101; clear BK111; clear HB; have HO109 := n0_; have BK101 := n1_; have BK111 := n2_; have HB := n3_; clear n0_ n1_ n2_ n3_; (try clear hb); (try clear hk)))
   go_ret
   exact ⟨qba20_, qba5_⟩
  subst c153
  have H1 : ((grommetlaw14_alive.f).bind fun t113 => (some t113)) = some r := by rw [if_pos rfl] at H; exact H
  clear H
  have H := H1
  clear H1
  replace H := Option.bind_eq_some_iff.mp H
  obtain ⟨t113, A1540, H⟩ := H
  replace H : (some t113) = some r := H
  have A154 := Aside0.mk A1540
  clear A1540
  obtain rfl := Option.some.inj H
  go_enter Tryz.func7, Tryz.ntmps7
  go_wp2_with (first | ((with_reducible refine gate_dst (N := 1) rfl ?_); refine box_event ?hg (N := 1) ?hd (cs := #[.slice A0_0 l0_0.length c0_0, .int .i64 a0_1]) (t := 24) ?hr ?_; (case hd => rfl); (case hg => rfl); (case hr => first | (go_simp; done) | (go_simp; rfl)); intro gb101 hg w155 hbox hb; have n0_ := Aside0.mk (below_step (qba10_) hb); have n1_ := Aside0.mk (hbox); have n2_ := Aside0.mk ((by rw [hg]; exact (below_size (qba10_)) : w.heap.size ≤ gb101)); have n3_ := Aside0.mk ((by rw [hg]; exact (below_size (qba10_)) : w.heap.size ≤ gb101)); clear HB; have HB := n0_; have BK101 := n1_; have GW101 := n2_; have GE101 := n3_; clear n0_ n1_ n2_ n3_; clear hb hbox hg; have hcz156_0 : w155.cell? ⟨gb101, 0, none⟩ = some (.slice A0_0 l0_0.length c0_0) := (blk_cell BK101.out 0).trans rfl; have hcz156_1 : w155.cell? ⟨gb101, 1, none⟩ = some (.int .i64 a0_1) := (blk_cell BK101.out 1).trans rfl; have hfz156_0 := blk_frozen BK101.out 0; have hfz156_1 := blk_frozen BK101.out 1) | ((with_reducible refine gate_callee (f := 9) rfl ?_); refine goesL_ (some 10) rfl rfl Tryz.func9 (by kernel_rfl) rfl #[.agg #[.slice A0_0 l0_0.length c0_0, .int .i64 a0_1]] rfl (qba6_) ?_; (with_reducible refine (grommetlaw14_large.calls k _ _ l0_0 a0_1 false _ ?side1 ?side2 (hG.below (qba0_)) A2.out).mono ?_); (case side1 => exact qba39_); (case side2 => exact HC0_0.out); rintro e w157 ⟨rfl, hb⟩; refine ⟨_, rfl, ?_⟩; have n0_ := Aside0.mk (blk_below (g := gb101) (o := .cells #[.slice A0_0 l0_0.length c0_0, .int .i64 a0_1] 24 (0, 0)) (qba1_) hb); have n1_ := Aside0.mk (below_step (qba2_) hb); clear BK101; clear HB; have BK101 := n0_; have HB := n1_; clear n0_ n1_; (try clear hb); (try clear hk); have hcz158_0 : w157.cell? ⟨gb101, 0, none⟩ = some (.slice A0_0 l0_0.length c0_0) := (blk_cell BK101.out 0).trans rfl; have hcz158_1 : w157.cell? ⟨gb101, 1, none⟩ = some (.int .i64 a0_1) := (blk_cell BK101.out 1).trans rfl; have hfz158_0 := blk_frozen BK101.out 0; have hfz158_1 := blk_frozen BK101.out 1) | ((with_reducible refine gate_callee (f := 11) rfl ?_); refine goesL_ (some 14) rfl rfl Tryz.func11 (by kernel_rfl) rfl #[.agg #[.slice A0_0 l0_0.length c0_0, .int .i64 a0_1]] rfl (qba6_) ?_; (with_reducible refine (lay_Tree.calls _ _ l0_0 a0_1 t104 t105 t106 t107 t110 _ ?side1 ?side2 (hG.below (qba0_)) A9.out).mono ?_); (case side1 => exact qba39_); (case side2 => exact HC0_0.out); rintro e w159 ⟨v108, rfl, ho0, hb⟩; refine ⟨_, rfl, ?_⟩; have n0_ := Aside0.mk (Kd.R_lower ho0 (below_size (qba2_))); have n1_ := Aside0.mk (blk_below (g := gb101) (o := .cells #[.slice A0_0 l0_0.length c0_0, .int .i64 a0_1] 24 (0, 0)) (qba1_) hb); have n2_ := Aside0.mk (below_step (qba2_) hb); clear BK101; clear HB; have HO109 := n0_; have BK101 := n1_; have HB := n2_; clear n0_ n1_ n2_; (try clear hb); (try clear hk); (try clear ho0)) | ((with_reducible refine gate_dst (N := 3) rfl ?_); refine box_event ?hg (N := 3) ?hd (cs := #[.int .i64 0, .string (⟨#[]⟩ : ByteArray), .string (⟨#[]⟩ : ByteArray), .slice none 0 0]) (t := 29) ?hr ?_; (case hd => rfl); (case hg => rfl); (case hr => first | (go_simp; done) | (go_simp; rfl)); intro gb111 hg w160 hbox hb; have n0_ := Aside0.mk (Kd.R_below (Kd.R_elderB (qba11_) gb111 (Nat.le_of_eq hg.symm)) hb); have n1_ := Aside0.mk (blk_below (g := gb101) (o := .cells #[.slice A0_0 l0_0.length c0_0, .int .i64 a0_1] 24 (0, 0)) (qba1_) hb); have n2_ := Aside0.mk (below_step (qba2_) hb); have n3_ := Aside0.mk (hbox); have n4_ := Aside0.mk ((by rw [hg]; exact (below_size (qba2_)) : w.heap.size ≤ gb111)); have n5_ := Aside0.mk ((by rw [hg]; exact (below_size (qba2_)) : w.heap.size ≤ gb111)); have n6_ := Aside0.mk ((by rw [hg]; exact Nat.ne_of_lt (blk_lt (g := gb101) (o := .cells #[.slice A0_0 l0_0.length c0_0, .int .i64 a0_1] 24 (0, 0)) (qba1_)) : gb101 ≠ gb111)); have n7_ := Aside0.mk ((by rw [hg]; exact Nat.ne_of_gt (blk_lt (g := gb101) (o := .cells #[.slice A0_0 l0_0.length c0_0, .int .i64 a0_1] 24 (0, 0)) (qba1_)) : gb111 ≠ gb101)); clear HO109; clear BK101; clear HB; have HO109 := n0_; have BK101 := n1_; have HB := n2_; have BK111 := n3_; have GW111 := n4_; have GE111 := n5_; have NB101_111 := n6_; have NB111_101 := n7_; clear n0_ n1_ n2_ n3_ n4_ n5_ n6_ n7_; clear hb hbox hg; have hnb161 := NB111_101.out; have hnc161 := NB101_111.out; have hcz162_0 : w160.cell? ⟨gb111, 0, none⟩ = some (.int .i64 0) := (blk_cell BK111.out 0).trans rfl; have hcz162_1 : w160.cell? ⟨gb111, 1, none⟩ = some (.string (⟨#[]⟩ : ByteArray)) := (blk_cell BK111.out 1).trans rfl; have hcz162_2 : w160.cell? ⟨gb111, 2, none⟩ = some (.string (⟨#[]⟩ : ByteArray)) := (blk_cell BK111.out 2).trans rfl; have hcz162_3 : w160.cell? ⟨gb111, 3, none⟩ = some (.slice none 0 0) := (blk_cell BK111.out 3).trans rfl; have hfz162_0 := blk_frozen BK111.out 0; have hfz162_1 := blk_frozen BK111.out 1; have hfz162_2 := blk_frozen BK111.out 2; have hfz162_3 := blk_frozen BK111.out 3; obtain ⟨Ao163, co163, eo163⟩ := Kd.R_slice HO109.out; subst eo163) | ((with_reducible refine gate_callee (f := 15) rfl ?_); refine goesL_ (some 21) rfl rfl Tryz.func15 (by kernel_rfl) rfl #[.agg #[.int .i64 t104, .string t105, .string t106, .slice Ao163 t107.length co163], .agg #[.int .i64 0, .string (⟨#[]⟩ : ByteArray), .string (⟨#[]⟩ : ByteArray), .slice none 0 0]] rfl (qba6_) ?_; (refine (grommetref09_Same.calls k t104 t105 t106 _ _ t107 0 (⟨#[]⟩ : ByteArray) (⟨#[]⟩ : ByteArray) _ _ ([] : List (S29)) true _ ?side1 ?side2 ?side3 ?side4 (hG.below (qba0_)) A152.out).mono ?_); (case side1 => refine (Kd.R_reads' (e := 29) (base := w.heap.size) (ok := fun k_ => (True ∧ k_ ≠ gb111)) (n := t107.length) (c := co163) ?_).2.2; exact (qba22_)); (case side2 => exact qba40_); (case side3 => exact Kd.C_nil _ _); (case side4 => exact Nat.le_refl _); rintro e w164 ⟨rfl, hb⟩; refine ⟨_, rfl, ?_⟩; have n0_ := Aside0.mk (Kd.R_below (qba22_) hb); have n1_ := Aside0.mk (blk_below (g := gb101) (o := .cells #[.slice A0_0 l0_0.length c0_0, .int .i64 a0_1] 24 (0, 0)) (qba7_) hb); have n2_ := Aside0.mk (blk_below (g := gb111) (o := .cells #[.int .i64 t104, .string t105, .string t106, .slice Ao163 t107.length co163] 29 (0, 0)) (qba4_) hb); have n3_ := Aside0.mk (below_step (qba5_) hb); clear HO109; clear BK101; clear BK111; clear HB; have HO109 := n0_; have BK101 := n1_; have BK111 := n2_; have HB := n3_; clear n0_ n1_ n2_ n3_; (try clear hb); (try clear hk)) | (go_at_call 10; (with_reducible refine (grommetlaw14_alive.calls  t113 _ (hG.below (qba0_)) A154.out).mono ?_); rintro e w165 ⟨rfl, hb⟩; have n0_ := Aside0.mk (Kd.R_below (qba11_) hb); have n1_ := Aside0.mk (blk_below (g := gb101) (o := .cells #[.slice A0_0 l0_0.length c0_0, .int .i64 a0_1] 24 (0, 0)) (qba1_) hb); have n2_ := Aside0.mk (blk_below (g := gb111) (o := .cells #[.int .i64 t104, .string t105, .string t106, .slice Ao163 t107.length co163] 29 (0, 0)) (qba8_) hb); have n3_ := Aside0.mk (below_step (qba5_) hb); clear HO109; clear BK101; clear BK111; clear HB; have HO109 := n0_; have BK101 := n1_; have BK111 := n2_; have HB := n3_; clear n0_ n1_ n2_ n3_; (try clear hb); (try clear hk)))
  go_ret
  exact ⟨qba20_, qba5_⟩
 rw [if_pos c10] at H
 have c10b0 : (t110 == 0) = true := beq_iff_eq.mpr c10
 have c10b1 : (t110 != 0) = false := bne_eq_false_iff_eq.mpr c10
 clear c10
 replace H := Option.bind_eq_some_iff.mp H
 obtain ⟨⟨t114, t117, t118⟩, A110, H⟩ := H
 replace H : ((graph_Canon.f l0_0 a0_1).bind fun bt120 => ((flow_Right.f t104 t105 t106 t107).bind fun t126 => (if t126 = true then (if t118 = 0 then (if bt120.2.2 = 0 then ((grommetref12_Same.f k t114 t117 bt120.1 bt120.2.1).bind fun t127 => (if t127 = true then ((grommetlaw14_alive.f).bind fun t128 => (some t128)) else (some false))) else (some false)) else (some false)) else (some false)))) = some r := H
 have A11 := Aside0.mk A110
 clear A110
 replace H := Option.bind_eq_some_iff.mp H
 obtain ⟨⟨t120, t123, t124⟩, A120, H⟩ := H
 replace H : ((flow_Right.f t104 t105 t106 t107).bind fun t126 => (if t126 = true then (if t118 = 0 then (if t124 = 0 then ((grommetref12_Same.f k t114 t117 t120 t123).bind fun t127 => (if t127 = true then ((grommetlaw14_alive.f).bind fun t128 => (some t128)) else (some false))) else (some false)) else (some false)) else (some false))) = some r := H
 have A12 := Aside0.mk A120
 clear A120
 replace H := Option.bind_eq_some_iff.mp H
 obtain ⟨t126, A130, H⟩ := H
 replace H : (if t126 = true then (if t118 = 0 then (if t124 = 0 then ((grommetref12_Same.f k t114 t117 t120 t123).bind fun t127 => (if t127 = true then ((grommetlaw14_alive.f).bind fun t128 => (some t128)) else (some false))) else (some false)) else (some false)) else (some false)) = some r := H
 have A13 := Aside0.mk A130
 clear A130
 by_cases c14 : t126 = true
 rotate_left
 ·
  replace c14 := Bool.eq_false_iff.mpr c14
  subst c14
  have H1 : (some false) = some r := by rw [if_neg (show ¬ (false = true) by decide)] at H; exact H
  clear H
  have H := H1
  clear H1
  obtain rfl := Option.some.inj H
  go_enter Tryz.func7, Tryz.ntmps7
  go_wp2_with (first | ((with_reducible refine gate_dst (N := 1) rfl ?_); refine box_event ?hg (N := 1) ?hd (cs := #[.slice A0_0 l0_0.length c0_0, .int .i64 a0_1]) (t := 24) ?hr ?_; (case hd => rfl); (case hg => rfl); (case hr => first | (go_simp; done) | (go_simp; rfl)); intro gb101 hg w127 hbox hb; have n0_ := Aside0.mk (below_step (qba10_) hb); have n1_ := Aside0.mk (hbox); have n2_ := Aside0.mk ((by rw [hg]; exact (below_size (qba10_)) : w.heap.size ≤ gb101)); have n3_ := Aside0.mk ((by rw [hg]; exact (below_size (qba10_)) : w.heap.size ≤ gb101)); clear HB; have HB := n0_; have BK101 := n1_; have GW101 := n2_; have GE101 := n3_; clear n0_ n1_ n2_ n3_; clear hb hbox hg; have hcz128_0 : w127.cell? ⟨gb101, 0, none⟩ = some (.slice A0_0 l0_0.length c0_0) := (blk_cell BK101.out 0).trans rfl; have hcz128_1 : w127.cell? ⟨gb101, 1, none⟩ = some (.int .i64 a0_1) := (blk_cell BK101.out 1).trans rfl; have hfz128_0 := blk_frozen BK101.out 0; have hfz128_1 := blk_frozen BK101.out 1) | ((with_reducible refine gate_callee (f := 9) rfl ?_); refine goesL_ (some 10) rfl rfl Tryz.func9 (by kernel_rfl) rfl #[.agg #[.slice A0_0 l0_0.length c0_0, .int .i64 a0_1]] rfl (qba6_) ?_; (with_reducible refine (grommetlaw14_large.calls k _ _ l0_0 a0_1 false _ ?side1 ?side2 (hG.below (qba0_)) A2.out).mono ?_); (case side1 => exact qba39_); (case side2 => exact HC0_0.out); rintro e w129 ⟨rfl, hb⟩; refine ⟨_, rfl, ?_⟩; have n0_ := Aside0.mk (blk_below (g := gb101) (o := .cells #[.slice A0_0 l0_0.length c0_0, .int .i64 a0_1] 24 (0, 0)) (qba1_) hb); have n1_ := Aside0.mk (below_step (qba2_) hb); clear BK101; clear HB; have BK101 := n0_; have HB := n1_; clear n0_ n1_; (try clear hb); (try clear hk); have hcz130_0 : w129.cell? ⟨gb101, 0, none⟩ = some (.slice A0_0 l0_0.length c0_0) := (blk_cell BK101.out 0).trans rfl; have hcz130_1 : w129.cell? ⟨gb101, 1, none⟩ = some (.int .i64 a0_1) := (blk_cell BK101.out 1).trans rfl; have hfz130_0 := blk_frozen BK101.out 0; have hfz130_1 := blk_frozen BK101.out 1) | ((with_reducible refine gate_callee (f := 11) rfl ?_); refine goesL_ (some 14) rfl rfl Tryz.func11 (by kernel_rfl) rfl #[.agg #[.slice A0_0 l0_0.length c0_0, .int .i64 a0_1]] rfl (qba6_) ?_; (with_reducible refine (lay_Tree.calls _ _ l0_0 a0_1 t104 t105 t106 t107 t110 _ ?side1 ?side2 (hG.below (qba0_)) A9.out).mono ?_); (case side1 => exact qba39_); (case side2 => exact HC0_0.out); rintro e w131 ⟨v108, rfl, ho0, hb⟩; refine ⟨_, rfl, ?_⟩; have n0_ := Aside0.mk (Kd.R_lower ho0 (below_size (qba2_))); have n1_ := Aside0.mk (blk_below (g := gb101) (o := .cells #[.slice A0_0 l0_0.length c0_0, .int .i64 a0_1] 24 (0, 0)) (qba1_) hb); have n2_ := Aside0.mk (below_step (qba2_) hb); clear BK101; clear HB; have HO109 := n0_; have BK101 := n1_; have HB := n2_; clear n0_ n1_ n2_; (try clear hb); (try clear hk); (try clear ho0)) | ((with_reducible refine gate_dst (N := 3) rfl ?_); refine box_event ?hg (N := 3) ?hd (cs := #[.int .i64 0, .string (⟨#[]⟩ : ByteArray), .string (⟨#[]⟩ : ByteArray), .slice none 0 0]) (t := 29) ?hr ?_; (case hd => rfl); (case hg => rfl); (case hr => first | (go_simp; done) | (go_simp; rfl)); intro gb111 hg w132 hbox hb; have n0_ := Aside0.mk (Kd.R_below (Kd.R_elderB (qba11_) gb111 (Nat.le_of_eq hg.symm)) hb); have n1_ := Aside0.mk (blk_below (g := gb101) (o := .cells #[.slice A0_0 l0_0.length c0_0, .int .i64 a0_1] 24 (0, 0)) (qba1_) hb); have n2_ := Aside0.mk (below_step (qba2_) hb); have n3_ := Aside0.mk (hbox); have n4_ := Aside0.mk ((by rw [hg]; exact (below_size (qba2_)) : w.heap.size ≤ gb111)); have n5_ := Aside0.mk ((by rw [hg]; exact (below_size (qba2_)) : w.heap.size ≤ gb111)); have n6_ := Aside0.mk ((by rw [hg]; exact Nat.ne_of_lt (blk_lt (g := gb101) (o := .cells #[.slice A0_0 l0_0.length c0_0, .int .i64 a0_1] 24 (0, 0)) (qba1_)) : gb101 ≠ gb111)); have n7_ := Aside0.mk ((by rw [hg]; exact Nat.ne_of_gt (blk_lt (g := gb101) (o := .cells #[.slice A0_0 l0_0.length c0_0, .int .i64 a0_1] 24 (0, 0)) (qba1_)) : gb111 ≠ gb101)); clear HO109; clear BK101; clear HB; have HO109 := n0_; have BK101 := n1_; have HB := n2_; have BK111 := n3_; have GW111 := n4_; have GE111 := n5_; have NB101_111 := n6_; have NB111_101 := n7_; clear n0_ n1_ n2_ n3_ n4_ n5_ n6_ n7_; clear hb hbox hg; have hnb133 := NB111_101.out; have hnc133 := NB101_111.out; have hcz134_0 : w132.cell? ⟨gb111, 0, none⟩ = some (.int .i64 0) := (blk_cell BK111.out 0).trans rfl; have hcz134_1 : w132.cell? ⟨gb111, 1, none⟩ = some (.string (⟨#[]⟩ : ByteArray)) := (blk_cell BK111.out 1).trans rfl; have hcz134_2 : w132.cell? ⟨gb111, 2, none⟩ = some (.string (⟨#[]⟩ : ByteArray)) := (blk_cell BK111.out 2).trans rfl; have hcz134_3 : w132.cell? ⟨gb111, 3, none⟩ = some (.slice none 0 0) := (blk_cell BK111.out 3).trans rfl; have hfz134_0 := blk_frozen BK111.out 0; have hfz134_1 := blk_frozen BK111.out 1; have hfz134_2 := blk_frozen BK111.out 2; have hfz134_3 := blk_frozen BK111.out 3; obtain ⟨Ao135, co135, eo135⟩ := Kd.R_slice HO109.out; subst eo135) | ((with_reducible refine gate_callee (f := 22) rfl ?_); refine goesL_ (some 27) rfl rfl Tryz.func22 (by kernel_rfl) rfl #[.agg #[.int .i64 t104, .string t105, .string t106, .slice Ao135 t107.length co135]] rfl (qba6_) ?_; (with_reducible refine (graph_Compose.calls t104 t105 t106 _ _ t107 t114 t117 t118 _ ?side1 ?side2 (hG.below (qba0_)) A11.out).mono ?_); (case side1 => refine (Kd.R_reads' (e := 29) (base := w.heap.size) (ok := fun k_ => (True ∧ k_ ≠ gb111)) (n := t107.length) (c := co135) ?_).2.2; exact (qba23_)); (case side2 => exact qba40_); rintro e w136 ⟨v115, rfl, ho0, hb⟩; refine ⟨_, rfl, ?_⟩; have n0_ := Aside0.mk (Kd.R_below (qba23_) hb); have n1_ := Aside0.mk (Kd.S_lower ho0 (below_size (qba5_))); have n2_ := Aside0.mk (blk_below (g := gb101) (o := .cells #[.slice A0_0 l0_0.length c0_0, .int .i64 a0_1] 24 (0, 0)) (qba7_) hb); have n3_ := Aside0.mk (blk_below (g := gb111) (o := .cells #[.int .i64 t104, .string t105, .string t106, .slice Ao135 t107.length co135] 29 (0, 0)) (qba4_) hb); have n4_ := Aside0.mk (below_step (qba5_) hb); clear HO109; clear BK101; clear BK111; clear HB; have HO109 := n0_; have HO116 := n1_; have BK101 := n2_; have BK111 := n3_; have HB := n4_; clear n0_ n1_ n2_ n3_ n4_; (try clear hb); (try clear hk); (try clear ho0)) | ((with_reducible refine gate_dst (N := 5) rfl ?_); refine box_event ?hg (N := 5) ?hd (cs := #[.slice none 0 0, .int .i64 0]) (t := 24) ?hr ?_; (case hd => rfl); (case hg => rfl); (case hr => first | (go_simp; done) | (go_simp; rfl)); intro gb119 hg w137 hbox hb; have n0_ := Aside0.mk (Kd.R_below (qba11_) hb); have n1_ := Aside0.mk (Kd.S_below (qba18_) hb); have n2_ := Aside0.mk (blk_below (g := gb101) (o := .cells #[.slice A0_0 l0_0.length c0_0, .int .i64 a0_1] 24 (0, 0)) (qba1_) hb); have n3_ := Aside0.mk (blk_below (g := gb111) (o := .cells #[.int .i64 t104, .string t105, .string t106, .slice Ao135 t107.length co135] 29 (0, 0)) (qba8_) hb); have n4_ := Aside0.mk (below_step (qba5_) hb); have n5_ := Aside0.mk (hbox); have n6_ := Aside0.mk ((by rw [hg]; exact (below_size (qba5_)) : w.heap.size ≤ gb119)); have n7_ := Aside0.mk ((by rw [hg]; exact (below_size (qba5_)) : w.heap.size ≤ gb119)); have n8_ := Aside0.mk ((by rw [hg]; exact Nat.ne_of_lt (blk_lt (g := gb101) (o := .cells #[.slice A0_0 l0_0.length c0_0, .int .i64 a0_1] 24 (0, 0)) (qba1_)) : gb101 ≠ gb119)); have n9_ := Aside0.mk ((by rw [hg]; exact Nat.ne_of_gt (blk_lt (g := gb101) (o := .cells #[.slice A0_0 l0_0.length c0_0, .int .i64 a0_1] 24 (0, 0)) (qba1_)) : gb119 ≠ gb101)); have n10_ := Aside0.mk ((by rw [hg]; exact Nat.ne_of_lt (blk_lt (g := gb111) (o := .cells #[.int .i64 t104, .string t105, .string t106, .slice Ao135 t107.length co135] 29 (0, 0)) (qba8_)) : gb111 ≠ gb119)); have n11_ := Aside0.mk ((by rw [hg]; exact Nat.ne_of_gt (blk_lt (g := gb111) (o := .cells #[.int .i64 t104, .string t105, .string t106, .slice Ao135 t107.length co135] 29 (0, 0)) (qba8_)) : gb119 ≠ gb111)); clear HO109; clear HO116; clear BK101; clear BK111; clear HB; have HO109 := n0_; have HO116 := n1_; have BK101 := n2_; have BK111 := n3_; have HB := n4_; have BK119 := n5_; have GW119 := n6_; have GE119 := n7_; have NB101_119 := n8_; have NB119_101 := n9_; have NB111_119 := n10_; have NB119_111 := n11_; clear n0_ n1_ n2_ n3_ n4_ n5_ n6_ n7_ n8_ n9_ n10_ n11_; clear hb hbox hg; obtain ⟨Ao138, co138, eo138⟩ := Kd.S_slice HO116.out; subst eo138; have hnb139 := NB119_101.out; have hnc139 := NB101_119.out; have hnb140 := NB119_111.out; have hnc140 := NB111_119.out; have hcz141_0 : w137.cell? ⟨gb119, 0, none⟩ = some (.slice none 0 0) := (blk_cell BK119.out 0).trans rfl; have hcz141_1 : w137.cell? ⟨gb119, 1, none⟩ = some (.int .i64 0) := (blk_cell BK119.out 1).trans rfl; have hfz141_0 := blk_frozen BK119.out 0; have hfz141_1 := blk_frozen BK119.out 1; have hcz142_0 : w137.cell? ⟨gb101, 0, none⟩ = some (.slice A0_0 l0_0.length c0_0) := (blk_cell BK101.out 0).trans rfl; have hcz142_1 : w137.cell? ⟨gb101, 1, none⟩ = some (.int .i64 a0_1) := (blk_cell BK101.out 1).trans rfl; have hfz142_0 := blk_frozen BK101.out 0; have hfz142_1 := blk_frozen BK101.out 1) | ((with_reducible refine gate_callee (f := 23) rfl ?_); refine goesL_ (some 32) rfl rfl Tryz.func23 (by kernel_rfl) rfl #[.agg #[.slice A0_0 l0_0.length c0_0, .int .i64 a0_1]] rfl (qba6_) ?_; (with_reducible refine (graph_Canon.calls _ _ l0_0 a0_1 t120 t123 t124 _ ?side1 ?side2 (hG.below (qba0_)) A12.out).mono ?_); (case side1 => exact Kd.C_below HR0_0.out (qba3_)); (case side2 => exact HC0_0.out); rintro e w143 ⟨v121, rfl, ho0, hb⟩; refine ⟨_, rfl, ?_⟩; have n0_ := Aside0.mk (Kd.R_below (by (with_reducible repeat (first | apply Kd.R_alloc | apply Kd.R_drewN | apply Kd.R_drew)); exact (Kd.R_mono (Kd.R_far (p := ⟨gb119, 1, none⟩) (Kd.R_far (p := ⟨gb119, 0, none⟩) (Kd.R_types HO109.out BK119.out (by decide)) (fun _ hk => hk.2) (.slice Ao138 t114.length co138)) (fun _ hk => hk.2) (.int .i64 t117)) (fun _ h_ => h_.1))) hb); have n1_ := Aside0.mk (Kd.S_elder' (qba28_) (Kd.S_base ho0) hb); have n2_ := Aside0.mk (Kd.S_lower (Kd.S_new' ho0 (Kd.S_lt (qba28_))) (below_size (qba3_))); have n3_ := Aside0.mk (blk_below (g := gb101) (o := .cells #[.slice A0_0 l0_0.length c0_0, .int .i64 a0_1] 24 (0, 0)) (qba17_) hb); have n4_ := Aside0.mk (blk_below (g := gb111) (o := .cells #[.int .i64 t104, .string t105, .string t106, .slice Ao135 t107.length co135] 29 (0, 0)) (qba15_) hb); have n5_ := Aside0.mk (blk_below (g := gb119) (o := .cells #[.slice Ao138 t114.length co138, .int .i64 t117] 24 (0, 0)) (by (with_reducible repeat (first | refine blk_drewN ?_ _ | refine blk_drew ?_ | refine blk_alloc ?_ _)); refine blk_put (cs := #[.slice Ao138 t114.length co138, .int .i64 0]) ?_ 1 _ rfl; (with_reducible repeat (first | refine blk_drewN ?_ _ | refine blk_drew ?_ | refine blk_alloc ?_ _)); refine blk_put (cs := #[.slice none 0 0, .int .i64 0]) ?_ 0 _ rfl; (with_reducible repeat (first | refine blk_drewN ?_ _ | refine blk_drew ?_ | refine blk_alloc ?_ _)); exact BK119.out) hb); have n6_ := Aside0.mk (below_step (qba3_) hb); clear HO109; clear HO116; clear BK101; clear BK111; clear BK119; clear HB; have HO109 := n0_; have HO116 := n1_; have HO122 := n2_; have BK101 := n3_; have BK111 := n4_; have BK119 := n5_; have HB := n6_; clear n0_ n1_ n2_ n3_ n4_ n5_ n6_; (try clear hb); (try clear hk); (try clear ho0)) | ((with_reducible refine gate_dst (N := 7) rfl ?_); refine box_event ?hg (N := 7) ?hd (cs := #[.slice none 0 0, .int .i64 0]) (t := 24) ?hr ?_; (case hd => rfl); (case hg => rfl); (case hr => first | (go_simp; done) | (go_simp; rfl)); intro gb125 hg w144 hbox hb; have n0_ := Aside0.mk (Kd.R_below (qba11_) hb); have n1_ := Aside0.mk (Kd.S_below (qba18_) hb); have n2_ := Aside0.mk (Kd.S_below (qba19_) hb); have n3_ := Aside0.mk (blk_below (g := gb101) (o := .cells #[.slice A0_0 l0_0.length c0_0, .int .i64 a0_1] 24 (0, 0)) (qba1_) hb); have n4_ := Aside0.mk (blk_below (g := gb111) (o := .cells #[.int .i64 t104, .string t105, .string t106, .slice Ao135 t107.length co135] 29 (0, 0)) (qba8_) hb); have n5_ := Aside0.mk (blk_below (g := gb119) (o := .cells #[.slice Ao138 t114.length co138, .int .i64 t117] 24 (0, 0)) (qba12_) hb); have n6_ := Aside0.mk (below_step (qba3_) hb); have n7_ := Aside0.mk (hbox); have n8_ := Aside0.mk ((by rw [hg]; exact (below_size (qba3_)) : w.heap.size ≤ gb125)); have n9_ := Aside0.mk ((by rw [hg]; exact (below_size (qba3_)) : w.heap.size ≤ gb125)); have n10_ := Aside0.mk ((by rw [hg]; exact Nat.ne_of_lt (blk_lt (g := gb101) (o := .cells #[.slice A0_0 l0_0.length c0_0, .int .i64 a0_1] 24 (0, 0)) (qba1_)) : gb101 ≠ gb125)); have n11_ := Aside0.mk ((by rw [hg]; exact Nat.ne_of_gt (blk_lt (g := gb101) (o := .cells #[.slice A0_0 l0_0.length c0_0, .int .i64 a0_1] 24 (0, 0)) (qba1_)) : gb125 ≠ gb101)); have n12_ := Aside0.mk ((by rw [hg]; exact Nat.ne_of_lt (blk_lt (g := gb111) (o := .cells #[.int .i64 t104, .string t105, .string t106, .slice Ao135 t107.length co135] 29 (0, 0)) (qba8_)) : gb111 ≠ gb125)); have n13_ := Aside0.mk ((by rw [hg]; exact Nat.ne_of_gt (blk_lt (g := gb111) (o := .cells #[.int .i64 t104, .string t105, .string t106, .slice Ao135 t107.length co135] 29 (0, 0)) (qba8_)) : gb125 ≠ gb111)); have n14_ := Aside0.mk ((by rw [hg]; exact Nat.ne_of_lt (blk_lt (g := gb119) (o := .cells #[.slice Ao138 t114.length co138, .int .i64 t117] 24 (0, 0)) (qba12_)) : gb119 ≠ gb125)); have n15_ := Aside0.mk ((by rw [hg]; exact Nat.ne_of_gt (blk_lt (g := gb119) (o := .cells #[.slice Ao138 t114.length co138, .int .i64 t117] 24 (0, 0)) (qba12_)) : gb125 ≠ gb119)); clear HO109; clear HO116; clear HO122; clear BK101; clear BK111; clear BK119; clear HB; have HO109 := n0_; have HO116 := n1_; have HO122 := n2_; have BK101 := n3_; have BK111 := n4_; have BK119 := n5_; have HB := n6_; have BK125 := n7_; have GW125 := n8_; have GE125 := n9_; have NB101_125 := n10_; have NB125_101 := n11_; have NB111_125 := n12_; have NB125_111 := n13_; have NB119_125 := n14_; have NB125_119 := n15_; clear n0_ n1_ n2_ n3_ n4_ n5_ n6_ n7_ n8_ n9_ n10_ n11_ n12_ n13_ n14_ n15_; clear hb hbox hg; obtain ⟨Ao145, co145, eo145⟩ := Kd.S_slice HO122.out; subst eo145; have hnb146 := NB125_101.out; have hnc146 := NB101_125.out; have hnb147 := NB125_111.out; have hnc147 := NB111_125.out; have hnb148 := NB125_119.out; have hnc148 := NB119_125.out; have hcz149_0 : w144.cell? ⟨gb125, 0, none⟩ = some (.slice none 0 0) := (blk_cell BK125.out 0).trans rfl; have hcz149_1 : w144.cell? ⟨gb125, 1, none⟩ = some (.int .i64 0) := (blk_cell BK125.out 1).trans rfl; have hfz149_0 := blk_frozen BK125.out 0; have hfz149_1 := blk_frozen BK125.out 1; have hcz150_0 : w144.cell? ⟨gb111, 0, none⟩ = some (.int .i64 t104) := (blk_cell BK111.out 0).trans rfl; have hcz150_1 : w144.cell? ⟨gb111, 1, none⟩ = some (.string t105) := (blk_cell BK111.out 1).trans rfl; have hcz150_2 : w144.cell? ⟨gb111, 2, none⟩ = some (.string t106) := (blk_cell BK111.out 2).trans rfl; have hcz150_3 : w144.cell? ⟨gb111, 3, none⟩ = some (.slice Ao135 t107.length co135) := (blk_cell BK111.out 3).trans rfl; have hfz150_0 := blk_frozen BK111.out 0; have hfz150_1 := blk_frozen BK111.out 1; have hfz150_2 := blk_frozen BK111.out 2; have hfz150_3 := blk_frozen BK111.out 3) | ((with_reducible refine gate_callee (f := 24) rfl ?_); refine goesL_ (some 36) rfl rfl Tryz.func24 (by kernel_rfl) rfl #[.agg #[.int .i64 t104, .string t105, .string t106, .slice Ao135 t107.length co135]] rfl (qba6_) ?_; (with_reducible refine (flow_Right.calls t104 t105 t106 _ _ t107 false _ ?side1 ?side2 (hG.below (qba0_)) A13.out).mono ?_); (case side1 => refine (Kd.R_reads' (e := 29) (base := w.heap.size) (ok := fun k_ => (True ∧ k_ ≠ gb111)) (n := t107.length) (c := co135) ?_).2.2; exact (qba30_)); (case side2 => exact qba40_); rintro e w151 ⟨rfl, hb⟩; refine ⟨_, rfl, ?_⟩; have n0_ := Aside0.mk (Kd.R_below (qba30_) hb); have n1_ := Aside0.mk (Kd.S_below (by (with_reducible repeat (first | apply Kd.S_alloc | apply Kd.S_drewN | apply Kd.S_drew)); exact (Kd.S_mono (Kd.S_far (p := ⟨gb125, 1, none⟩) (Kd.S_far (p := ⟨gb125, 0, none⟩) (Kd.S_types HO116.out BK125.out (by decide)) (fun _ hk => hk.2) (.slice Ao145 t120.length co145)) (fun _ hk => hk.2) (.int .i64 t123)) (fun _ h_ => h_.1))) hb); have n2_ := Aside0.mk (Kd.S_below (by (with_reducible repeat (first | apply Kd.S_alloc | apply Kd.S_drewN | apply Kd.S_drew)); exact (Kd.S_mono (Kd.S_far (p := ⟨gb125, 1, none⟩) (Kd.S_far (p := ⟨gb125, 0, none⟩) (Kd.S_types HO122.out BK125.out (by decide)) (fun _ hk => hk.2) (.slice Ao145 t120.length co145)) (fun _ hk => hk.2) (.int .i64 t123)) (fun _ h_ => h_.1))) hb); have n3_ := Aside0.mk (blk_below (g := gb101) (o := .cells #[.slice A0_0 l0_0.length c0_0, .int .i64 a0_1] 24 (0, 0)) (qba16_) hb); have n4_ := Aside0.mk (blk_below (g := gb111) (o := .cells #[.int .i64 t104, .string t105, .string t106, .slice Ao135 t107.length co135] 29 (0, 0)) (qba14_) hb); have n5_ := Aside0.mk (blk_below (g := gb119) (o := .cells #[.slice Ao138 t114.length co138, .int .i64 t117] 24 (0, 0)) (qba13_) hb); have n6_ := Aside0.mk (blk_below (g := gb125) (o := .cells #[.slice Ao145 t120.length co145, .int .i64 t123] 24 (0, 0)) (by (with_reducible repeat (first | refine blk_drewN ?_ _ | refine blk_drew ?_ | refine blk_alloc ?_ _)); refine blk_put (cs := #[.slice Ao145 t120.length co145, .int .i64 0]) ?_ 1 _ rfl; (with_reducible repeat (first | refine blk_drewN ?_ _ | refine blk_drew ?_ | refine blk_alloc ?_ _)); refine blk_put (cs := #[.slice none 0 0, .int .i64 0]) ?_ 0 _ rfl; (with_reducible repeat (first | refine blk_drewN ?_ _ | refine blk_drew ?_ | refine blk_alloc ?_ _)); exact BK125.out) hb); have n7_ := Aside0.mk (below_step (qba9_) hb); clear HO109; clear HO116; clear HO122; clear BK101; clear BK111; clear BK119; clear BK125; clear HB; have HO109 := n0_; have HO116 := n1_; have HO122 := n2_; have BK101 := n3_; have BK111 := n4_; have BK119 := n5_; have BK125 := n6_; have HB := n7_; clear n0_ n1_ n2_ n3_ n4_ n5_ n6_ n7_; (try clear hb); (try clear hk)))
  go_ret
  exact ⟨qba20_, qba9_⟩
 subst c14
 have H1 : (if t118 = 0 then (if t124 = 0 then ((grommetref12_Same.f k t114 t117 t120 t123).bind fun t127 => (if t127 = true then ((grommetlaw14_alive.f).bind fun t128 => (some t128)) else (some false))) else (some false)) else (some false)) = some r := by rw [if_pos rfl] at H; exact H
 clear H
 have H := H1
 clear H1
 by_cases c15 : t118 = 0
 rotate_left
 ·
  rw [if_neg c15] at H
  have c15b0 : (t118 == 0) = false := beq_eq_false_iff_ne.mpr c15
  have c15b1 : (t118 != 0) = true := bne_iff_ne.mpr c15
  obtain rfl := Option.some.inj H
  go_enter Tryz.func7, Tryz.ntmps7
  go_wp2_with (first | ((with_reducible refine gate_dst (N := 1) rfl ?_); refine box_event ?hg (N := 1) ?hd (cs := #[.slice A0_0 l0_0.length c0_0, .int .i64 a0_1]) (t := 24) ?hr ?_; (case hd => rfl); (case hg => rfl); (case hr => first | (go_simp; done) | (go_simp; rfl)); intro gb101 hg w102 hbox hb; have n0_ := Aside0.mk (below_step (qba10_) hb); have n1_ := Aside0.mk (hbox); have n2_ := Aside0.mk ((by rw [hg]; exact (below_size (qba10_)) : w.heap.size ≤ gb101)); have n3_ := Aside0.mk ((by rw [hg]; exact (below_size (qba10_)) : w.heap.size ≤ gb101)); clear HB; have HB := n0_; have BK101 := n1_; have GW101 := n2_; have GE101 := n3_; clear n0_ n1_ n2_ n3_; clear hb hbox hg; have hcz103_0 : w102.cell? ⟨gb101, 0, none⟩ = some (.slice A0_0 l0_0.length c0_0) := (blk_cell BK101.out 0).trans rfl; have hcz103_1 : w102.cell? ⟨gb101, 1, none⟩ = some (.int .i64 a0_1) := (blk_cell BK101.out 1).trans rfl; have hfz103_0 := blk_frozen BK101.out 0; have hfz103_1 := blk_frozen BK101.out 1) | ((with_reducible refine gate_callee (f := 9) rfl ?_); refine goesL_ (some 10) rfl rfl Tryz.func9 (by kernel_rfl) rfl #[.agg #[.slice A0_0 l0_0.length c0_0, .int .i64 a0_1]] rfl (qba6_) ?_; (with_reducible refine (grommetlaw14_large.calls k _ _ l0_0 a0_1 false _ ?side1 ?side2 (hG.below (qba0_)) A2.out).mono ?_); (case side1 => exact qba39_); (case side2 => exact HC0_0.out); rintro e w104 ⟨rfl, hb⟩; refine ⟨_, rfl, ?_⟩; have n0_ := Aside0.mk (blk_below (g := gb101) (o := .cells #[.slice A0_0 l0_0.length c0_0, .int .i64 a0_1] 24 (0, 0)) (qba1_) hb); have n1_ := Aside0.mk (below_step (qba2_) hb); clear BK101; clear HB; have BK101 := n0_; have HB := n1_; clear n0_ n1_; (try clear hb); (try clear hk); have hcz105_0 : w104.cell? ⟨gb101, 0, none⟩ = some (.slice A0_0 l0_0.length c0_0) := (blk_cell BK101.out 0).trans rfl; have hcz105_1 : w104.cell? ⟨gb101, 1, none⟩ = some (.int .i64 a0_1) := (blk_cell BK101.out 1).trans rfl; have hfz105_0 := blk_frozen BK101.out 0; have hfz105_1 := blk_frozen BK101.out 1) | ((with_reducible refine gate_callee (f := 11) rfl ?_); refine goesL_ (some 14) rfl rfl Tryz.func11 (by kernel_rfl) rfl #[.agg #[.slice A0_0 l0_0.length c0_0, .int .i64 a0_1]] rfl (qba6_) ?_; (with_reducible refine (lay_Tree.calls _ _ l0_0 a0_1 t104 t105 t106 t107 t110 _ ?side1 ?side2 (hG.below (qba0_)) A9.out).mono ?_); (case side1 => exact qba39_); (case side2 => exact HC0_0.out); rintro e w106 ⟨v108, rfl, ho0, hb⟩; refine ⟨_, rfl, ?_⟩; have n0_ := Aside0.mk (Kd.R_lower ho0 (below_size (qba2_))); have n1_ := Aside0.mk (blk_below (g := gb101) (o := .cells #[.slice A0_0 l0_0.length c0_0, .int .i64 a0_1] 24 (0, 0)) (qba1_) hb); have n2_ := Aside0.mk (below_step (qba2_) hb); clear BK101; clear HB; have HO109 := n0_; have BK101 := n1_; have HB := n2_; clear n0_ n1_ n2_; (try clear hb); (try clear hk); (try clear ho0)) | ((with_reducible refine gate_dst (N := 3) rfl ?_); refine box_event ?hg (N := 3) ?hd (cs := #[.int .i64 0, .string (⟨#[]⟩ : ByteArray), .string (⟨#[]⟩ : ByteArray), .slice none 0 0]) (t := 29) ?hr ?_; (case hd => rfl); (case hg => rfl); (case hr => first | (go_simp; done) | (go_simp; rfl)); intro gb111 hg w107 hbox hb; have n0_ := Aside0.mk (Kd.R_below (Kd.R_elderB (qba11_) gb111 (Nat.le_of_eq hg.symm)) hb); have n1_ := Aside0.mk (blk_below (g := gb101) (o := .cells #[.slice A0_0 l0_0.length c0_0, .int .i64 a0_1] 24 (0, 0)) (qba1_) hb); have n2_ := Aside0.mk (below_step (qba2_) hb); have n3_ := Aside0.mk (hbox); have n4_ := Aside0.mk ((by rw [hg]; exact (below_size (qba2_)) : w.heap.size ≤ gb111)); have n5_ := Aside0.mk ((by rw [hg]; exact (below_size (qba2_)) : w.heap.size ≤ gb111)); have n6_ := Aside0.mk ((by rw [hg]; exact Nat.ne_of_lt (blk_lt (g := gb101) (o := .cells #[.slice A0_0 l0_0.length c0_0, .int .i64 a0_1] 24 (0, 0)) (qba1_)) : gb101 ≠ gb111)); have n7_ := Aside0.mk ((by rw [hg]; exact Nat.ne_of_gt (blk_lt (g := gb101) (o := .cells #[.slice A0_0 l0_0.length c0_0, .int .i64 a0_1] 24 (0, 0)) (qba1_)) : gb111 ≠ gb101)); clear HO109; clear BK101; clear HB; have HO109 := n0_; have BK101 := n1_; have HB := n2_; have BK111 := n3_; have GW111 := n4_; have GE111 := n5_; have NB101_111 := n6_; have NB111_101 := n7_; clear n0_ n1_ n2_ n3_ n4_ n5_ n6_ n7_; clear hb hbox hg; have hnb108 := NB111_101.out; have hnc108 := NB101_111.out; have hcz109_0 : w107.cell? ⟨gb111, 0, none⟩ = some (.int .i64 0) := (blk_cell BK111.out 0).trans rfl; have hcz109_1 : w107.cell? ⟨gb111, 1, none⟩ = some (.string (⟨#[]⟩ : ByteArray)) := (blk_cell BK111.out 1).trans rfl; have hcz109_2 : w107.cell? ⟨gb111, 2, none⟩ = some (.string (⟨#[]⟩ : ByteArray)) := (blk_cell BK111.out 2).trans rfl; have hcz109_3 : w107.cell? ⟨gb111, 3, none⟩ = some (.slice none 0 0) := (blk_cell BK111.out 3).trans rfl; have hfz109_0 := blk_frozen BK111.out 0; have hfz109_1 := blk_frozen BK111.out 1; have hfz109_2 := blk_frozen BK111.out 2; have hfz109_3 := blk_frozen BK111.out 3; obtain ⟨Ao110, co110, eo110⟩ := Kd.R_slice HO109.out; subst eo110) | ((with_reducible refine gate_callee (f := 22) rfl ?_); refine goesL_ (some 27) rfl rfl Tryz.func22 (by kernel_rfl) rfl #[.agg #[.int .i64 t104, .string t105, .string t106, .slice Ao110 t107.length co110]] rfl (qba6_) ?_; (with_reducible refine (graph_Compose.calls t104 t105 t106 _ _ t107 t114 t117 t118 _ ?side1 ?side2 (hG.below (qba0_)) A11.out).mono ?_); (case side1 => refine (Kd.R_reads' (e := 29) (base := w.heap.size) (ok := fun k_ => (True ∧ k_ ≠ gb111)) (n := t107.length) (c := co110) ?_).2.2; exact (qba24_)); (case side2 => exact qba40_); rintro e w111 ⟨v115, rfl, ho0, hb⟩; refine ⟨_, rfl, ?_⟩; have n0_ := Aside0.mk (Kd.R_below (qba24_) hb); have n1_ := Aside0.mk (Kd.S_lower ho0 (below_size (qba5_))); have n2_ := Aside0.mk (blk_below (g := gb101) (o := .cells #[.slice A0_0 l0_0.length c0_0, .int .i64 a0_1] 24 (0, 0)) (qba7_) hb); have n3_ := Aside0.mk (blk_below (g := gb111) (o := .cells #[.int .i64 t104, .string t105, .string t106, .slice Ao110 t107.length co110] 29 (0, 0)) (qba4_) hb); have n4_ := Aside0.mk (below_step (qba5_) hb); clear HO109; clear BK101; clear BK111; clear HB; have HO109 := n0_; have HO116 := n1_; have BK101 := n2_; have BK111 := n3_; have HB := n4_; clear n0_ n1_ n2_ n3_ n4_; (try clear hb); (try clear hk); (try clear ho0)) | ((with_reducible refine gate_dst (N := 5) rfl ?_); refine box_event ?hg (N := 5) ?hd (cs := #[.slice none 0 0, .int .i64 0]) (t := 24) ?hr ?_; (case hd => rfl); (case hg => rfl); (case hr => first | (go_simp; done) | (go_simp; rfl)); intro gb119 hg w112 hbox hb; have n0_ := Aside0.mk (Kd.R_below (qba11_) hb); have n1_ := Aside0.mk (Kd.S_below (qba18_) hb); have n2_ := Aside0.mk (blk_below (g := gb101) (o := .cells #[.slice A0_0 l0_0.length c0_0, .int .i64 a0_1] 24 (0, 0)) (qba1_) hb); have n3_ := Aside0.mk (blk_below (g := gb111) (o := .cells #[.int .i64 t104, .string t105, .string t106, .slice Ao110 t107.length co110] 29 (0, 0)) (qba8_) hb); have n4_ := Aside0.mk (below_step (qba5_) hb); have n5_ := Aside0.mk (hbox); have n6_ := Aside0.mk ((by rw [hg]; exact (below_size (qba5_)) : w.heap.size ≤ gb119)); have n7_ := Aside0.mk ((by rw [hg]; exact (below_size (qba5_)) : w.heap.size ≤ gb119)); have n8_ := Aside0.mk ((by rw [hg]; exact Nat.ne_of_lt (blk_lt (g := gb101) (o := .cells #[.slice A0_0 l0_0.length c0_0, .int .i64 a0_1] 24 (0, 0)) (qba1_)) : gb101 ≠ gb119)); have n9_ := Aside0.mk ((by rw [hg]; exact Nat.ne_of_gt (blk_lt (g := gb101) (o := .cells #[.slice A0_0 l0_0.length c0_0, .int .i64 a0_1] 24 (0, 0)) (qba1_)) : gb119 ≠ gb101)); have n10_ := Aside0.mk ((by rw [hg]; exact Nat.ne_of_lt (blk_lt (g := gb111) (o := .cells #[.int .i64 t104, .string t105, .string t106, .slice Ao110 t107.length co110] 29 (0, 0)) (qba8_)) : gb111 ≠ gb119)); have n11_ := Aside0.mk ((by rw [hg]; exact Nat.ne_of_gt (blk_lt (g := gb111) (o := .cells #[.int .i64 t104, .string t105, .string t106, .slice Ao110 t107.length co110] 29 (0, 0)) (qba8_)) : gb119 ≠ gb111)); clear HO109; clear HO116; clear BK101; clear BK111; clear HB; have HO109 := n0_; have HO116 := n1_; have BK101 := n2_; have BK111 := n3_; have HB := n4_; have BK119 := n5_; have GW119 := n6_; have GE119 := n7_; have NB101_119 := n8_; have NB119_101 := n9_; have NB111_119 := n10_; have NB119_111 := n11_; clear n0_ n1_ n2_ n3_ n4_ n5_ n6_ n7_ n8_ n9_ n10_ n11_; clear hb hbox hg; obtain ⟨Ao113, co113, eo113⟩ := Kd.S_slice HO116.out; subst eo113; have hnb114 := NB119_101.out; have hnc114 := NB101_119.out; have hnb115 := NB119_111.out; have hnc115 := NB111_119.out; have hcz116_0 : w112.cell? ⟨gb119, 0, none⟩ = some (.slice none 0 0) := (blk_cell BK119.out 0).trans rfl; have hcz116_1 : w112.cell? ⟨gb119, 1, none⟩ = some (.int .i64 0) := (blk_cell BK119.out 1).trans rfl; have hfz116_0 := blk_frozen BK119.out 0; have hfz116_1 := blk_frozen BK119.out 1; have hcz117_0 : w112.cell? ⟨gb101, 0, none⟩ = some (.slice A0_0 l0_0.length c0_0) := (blk_cell BK101.out 0).trans rfl; have hcz117_1 : w112.cell? ⟨gb101, 1, none⟩ = some (.int .i64 a0_1) := (blk_cell BK101.out 1).trans rfl; have hfz117_0 := blk_frozen BK101.out 0; have hfz117_1 := blk_frozen BK101.out 1) | ((with_reducible refine gate_callee (f := 23) rfl ?_); refine goesL_ (some 32) rfl rfl Tryz.func23 (by kernel_rfl) rfl #[.agg #[.slice A0_0 l0_0.length c0_0, .int .i64 a0_1]] rfl (qba6_) ?_; (with_reducible refine (graph_Canon.calls _ _ l0_0 a0_1 t120 t123 t124 _ ?side1 ?side2 (hG.below (qba0_)) A12.out).mono ?_); (case side1 => exact Kd.C_below HR0_0.out (qba3_)); (case side2 => exact HC0_0.out); rintro e w118 ⟨v121, rfl, ho0, hb⟩; refine ⟨_, rfl, ?_⟩; have n0_ := Aside0.mk (Kd.R_below (by (with_reducible repeat (first | apply Kd.R_alloc | apply Kd.R_drewN | apply Kd.R_drew)); exact (Kd.R_mono (Kd.R_far (p := ⟨gb119, 1, none⟩) (Kd.R_far (p := ⟨gb119, 0, none⟩) (Kd.R_types HO109.out BK119.out (by decide)) (fun _ hk => hk.2) (.slice Ao113 t114.length co113)) (fun _ hk => hk.2) (.int .i64 t117)) (fun _ h_ => h_.1))) hb); have n1_ := Aside0.mk (Kd.S_elder' (qba29_) (Kd.S_base ho0) hb); have n2_ := Aside0.mk (Kd.S_lower (Kd.S_new' ho0 (Kd.S_lt (qba29_))) (below_size (qba3_))); have n3_ := Aside0.mk (blk_below (g := gb101) (o := .cells #[.slice A0_0 l0_0.length c0_0, .int .i64 a0_1] 24 (0, 0)) (qba17_) hb); have n4_ := Aside0.mk (blk_below (g := gb111) (o := .cells #[.int .i64 t104, .string t105, .string t106, .slice Ao110 t107.length co110] 29 (0, 0)) (qba15_) hb); have n5_ := Aside0.mk (blk_below (g := gb119) (o := .cells #[.slice Ao113 t114.length co113, .int .i64 t117] 24 (0, 0)) (by (with_reducible repeat (first | refine blk_drewN ?_ _ | refine blk_drew ?_ | refine blk_alloc ?_ _)); refine blk_put (cs := #[.slice Ao113 t114.length co113, .int .i64 0]) ?_ 1 _ rfl; (with_reducible repeat (first | refine blk_drewN ?_ _ | refine blk_drew ?_ | refine blk_alloc ?_ _)); refine blk_put (cs := #[.slice none 0 0, .int .i64 0]) ?_ 0 _ rfl; (with_reducible repeat (first | refine blk_drewN ?_ _ | refine blk_drew ?_ | refine blk_alloc ?_ _)); exact BK119.out) hb); have n6_ := Aside0.mk (below_step (qba3_) hb); clear HO109; clear HO116; clear BK101; clear BK111; clear BK119; clear HB; have HO109 := n0_; have HO116 := n1_; have HO122 := n2_; have BK101 := n3_; have BK111 := n4_; have BK119 := n5_; have HB := n6_; clear n0_ n1_ n2_ n3_ n4_ n5_ n6_; (try clear hb); (try clear hk); (try clear ho0)) | ((with_reducible refine gate_dst (N := 7) rfl ?_); refine box_event ?hg (N := 7) ?hd (cs := #[.slice none 0 0, .int .i64 0]) (t := 24) ?hr ?_; (case hd => rfl); (case hg => rfl); (case hr => first | (go_simp; done) | (go_simp; rfl)); intro gb125 hg w119 hbox hb; have n0_ := Aside0.mk (Kd.R_below (qba11_) hb); have n1_ := Aside0.mk (Kd.S_below (qba18_) hb); have n2_ := Aside0.mk (Kd.S_below (qba19_) hb); have n3_ := Aside0.mk (blk_below (g := gb101) (o := .cells #[.slice A0_0 l0_0.length c0_0, .int .i64 a0_1] 24 (0, 0)) (qba1_) hb); have n4_ := Aside0.mk (blk_below (g := gb111) (o := .cells #[.int .i64 t104, .string t105, .string t106, .slice Ao110 t107.length co110] 29 (0, 0)) (qba8_) hb); have n5_ := Aside0.mk (blk_below (g := gb119) (o := .cells #[.slice Ao113 t114.length co113, .int .i64 t117] 24 (0, 0)) (qba12_) hb); have n6_ := Aside0.mk (below_step (qba3_) hb); have n7_ := Aside0.mk (hbox); have n8_ := Aside0.mk ((by rw [hg]; exact (below_size (qba3_)) : w.heap.size ≤ gb125)); have n9_ := Aside0.mk ((by rw [hg]; exact (below_size (qba3_)) : w.heap.size ≤ gb125)); have n10_ := Aside0.mk ((by rw [hg]; exact Nat.ne_of_lt (blk_lt (g := gb101) (o := .cells #[.slice A0_0 l0_0.length c0_0, .int .i64 a0_1] 24 (0, 0)) (qba1_)) : gb101 ≠ gb125)); have n11_ := Aside0.mk ((by rw [hg]; exact Nat.ne_of_gt (blk_lt (g := gb101) (o := .cells #[.slice A0_0 l0_0.length c0_0, .int .i64 a0_1] 24 (0, 0)) (qba1_)) : gb125 ≠ gb101)); have n12_ := Aside0.mk ((by rw [hg]; exact Nat.ne_of_lt (blk_lt (g := gb111) (o := .cells #[.int .i64 t104, .string t105, .string t106, .slice Ao110 t107.length co110] 29 (0, 0)) (qba8_)) : gb111 ≠ gb125)); have n13_ := Aside0.mk ((by rw [hg]; exact Nat.ne_of_gt (blk_lt (g := gb111) (o := .cells #[.int .i64 t104, .string t105, .string t106, .slice Ao110 t107.length co110] 29 (0, 0)) (qba8_)) : gb125 ≠ gb111)); have n14_ := Aside0.mk ((by rw [hg]; exact Nat.ne_of_lt (blk_lt (g := gb119) (o := .cells #[.slice Ao113 t114.length co113, .int .i64 t117] 24 (0, 0)) (qba12_)) : gb119 ≠ gb125)); have n15_ := Aside0.mk ((by rw [hg]; exact Nat.ne_of_gt (blk_lt (g := gb119) (o := .cells #[.slice Ao113 t114.length co113, .int .i64 t117] 24 (0, 0)) (qba12_)) : gb125 ≠ gb119)); clear HO109; clear HO116; clear HO122; clear BK101; clear BK111; clear BK119; clear HB; have HO109 := n0_; have HO116 := n1_; have HO122 := n2_; have BK101 := n3_; have BK111 := n4_; have BK119 := n5_; have HB := n6_; have BK125 := n7_; have GW125 := n8_; have GE125 := n9_; have NB101_125 := n10_; have NB125_101 := n11_; have NB111_125 := n12_; have NB125_111 := n13_; have NB119_125 := n14_; have NB125_119 := n15_; clear n0_ n1_ n2_ n3_ n4_ n5_ n6_ n7_ n8_ n9_ n10_ n11_ n12_ n13_ n14_ n15_; clear hb hbox hg; obtain ⟨Ao120, co120, eo120⟩ := Kd.S_slice HO122.out; subst eo120; have hnb121 := NB125_101.out; have hnc121 := NB101_125.out; have hnb122 := NB125_111.out; have hnc122 := NB111_125.out; have hnb123 := NB125_119.out; have hnc123 := NB119_125.out; have hcz124_0 : w119.cell? ⟨gb125, 0, none⟩ = some (.slice none 0 0) := (blk_cell BK125.out 0).trans rfl; have hcz124_1 : w119.cell? ⟨gb125, 1, none⟩ = some (.int .i64 0) := (blk_cell BK125.out 1).trans rfl; have hfz124_0 := blk_frozen BK125.out 0; have hfz124_1 := blk_frozen BK125.out 1; have hcz125_0 : w119.cell? ⟨gb111, 0, none⟩ = some (.int .i64 t104) := (blk_cell BK111.out 0).trans rfl; have hcz125_1 : w119.cell? ⟨gb111, 1, none⟩ = some (.string t105) := (blk_cell BK111.out 1).trans rfl; have hcz125_2 : w119.cell? ⟨gb111, 2, none⟩ = some (.string t106) := (blk_cell BK111.out 2).trans rfl; have hcz125_3 : w119.cell? ⟨gb111, 3, none⟩ = some (.slice Ao110 t107.length co110) := (blk_cell BK111.out 3).trans rfl; have hfz125_0 := blk_frozen BK111.out 0; have hfz125_1 := blk_frozen BK111.out 1; have hfz125_2 := blk_frozen BK111.out 2; have hfz125_3 := blk_frozen BK111.out 3) | ((with_reducible refine gate_callee (f := 24) rfl ?_); refine goesL_ (some 36) rfl rfl Tryz.func24 (by kernel_rfl) rfl #[.agg #[.int .i64 t104, .string t105, .string t106, .slice Ao110 t107.length co110]] rfl (qba6_) ?_; (with_reducible refine (flow_Right.calls t104 t105 t106 _ _ t107 true _ ?side1 ?side2 (hG.below (qba0_)) A13.out).mono ?_); (case side1 => refine (Kd.R_reads' (e := 29) (base := w.heap.size) (ok := fun k_ => (True ∧ k_ ≠ gb111)) (n := t107.length) (c := co110) ?_).2.2; exact (qba31_)); (case side2 => exact qba40_); rintro e w126 ⟨rfl, hb⟩; refine ⟨_, rfl, ?_⟩; have n0_ := Aside0.mk (Kd.R_below (qba31_) hb); have n1_ := Aside0.mk (Kd.S_below (by (with_reducible repeat (first | apply Kd.S_alloc | apply Kd.S_drewN | apply Kd.S_drew)); exact (Kd.S_mono (Kd.S_far (p := ⟨gb125, 1, none⟩) (Kd.S_far (p := ⟨gb125, 0, none⟩) (Kd.S_types HO116.out BK125.out (by decide)) (fun _ hk => hk.2) (.slice Ao120 t120.length co120)) (fun _ hk => hk.2) (.int .i64 t123)) (fun _ h_ => h_.1))) hb); have n2_ := Aside0.mk (Kd.S_below (by (with_reducible repeat (first | apply Kd.S_alloc | apply Kd.S_drewN | apply Kd.S_drew)); exact (Kd.S_mono (Kd.S_far (p := ⟨gb125, 1, none⟩) (Kd.S_far (p := ⟨gb125, 0, none⟩) (Kd.S_types HO122.out BK125.out (by decide)) (fun _ hk => hk.2) (.slice Ao120 t120.length co120)) (fun _ hk => hk.2) (.int .i64 t123)) (fun _ h_ => h_.1))) hb); have n3_ := Aside0.mk (blk_below (g := gb101) (o := .cells #[.slice A0_0 l0_0.length c0_0, .int .i64 a0_1] 24 (0, 0)) (qba16_) hb); have n4_ := Aside0.mk (blk_below (g := gb111) (o := .cells #[.int .i64 t104, .string t105, .string t106, .slice Ao110 t107.length co110] 29 (0, 0)) (qba14_) hb); have n5_ := Aside0.mk (blk_below (g := gb119) (o := .cells #[.slice Ao113 t114.length co113, .int .i64 t117] 24 (0, 0)) (qba13_) hb); have n6_ := Aside0.mk (blk_below (g := gb125) (o := .cells #[.slice Ao120 t120.length co120, .int .i64 t123] 24 (0, 0)) (by (with_reducible repeat (first | refine blk_drewN ?_ _ | refine blk_drew ?_ | refine blk_alloc ?_ _)); refine blk_put (cs := #[.slice Ao120 t120.length co120, .int .i64 0]) ?_ 1 _ rfl; (with_reducible repeat (first | refine blk_drewN ?_ _ | refine blk_drew ?_ | refine blk_alloc ?_ _)); refine blk_put (cs := #[.slice none 0 0, .int .i64 0]) ?_ 0 _ rfl; (with_reducible repeat (first | refine blk_drewN ?_ _ | refine blk_drew ?_ | refine blk_alloc ?_ _)); exact BK125.out) hb); have n7_ := Aside0.mk (below_step (qba9_) hb); clear HO109; clear HO116; clear HO122; clear BK101; clear BK111; clear BK119; clear BK125; clear HB; have HO109 := n0_; have HO116 := n1_; have HO122 := n2_; have BK101 := n3_; have BK111 := n4_; have BK119 := n5_; have BK125 := n6_; have HB := n7_; clear n0_ n1_ n2_ n3_ n4_ n5_ n6_ n7_; (try clear hb); (try clear hk)))
  go_ret
  exact ⟨qba20_, qba9_⟩
 rw [if_pos c15] at H
 have c15b0 : (t118 == 0) = true := beq_iff_eq.mpr c15
 have c15b1 : (t118 != 0) = false := bne_eq_false_iff_eq.mpr c15
 clear c15
 by_cases c16 : t124 = 0
 rotate_left
 ·
  rw [if_neg c16] at H
  have c16b0 : (t124 == 0) = false := beq_eq_false_iff_ne.mpr c16
  have c16b1 : (t124 != 0) = true := bne_iff_ne.mpr c16
  obtain rfl := Option.some.inj H
  go_enter Tryz.func7, Tryz.ntmps7
  go_wp2_with (first | ((with_reducible refine gate_dst (N := 1) rfl ?_); refine box_event ?hg (N := 1) ?hd (cs := #[.slice A0_0 l0_0.length c0_0, .int .i64 a0_1]) (t := 24) ?hr ?_; (case hd => rfl); (case hg => rfl); (case hr => first | (go_simp; done) | (go_simp; rfl)); intro gb101 hg w77 hbox hb; have n0_ := Aside0.mk (below_step (qba10_) hb); have n1_ := Aside0.mk (hbox); have n2_ := Aside0.mk ((by rw [hg]; exact (below_size (qba10_)) : w.heap.size ≤ gb101)); have n3_ := Aside0.mk ((by rw [hg]; exact (below_size (qba10_)) : w.heap.size ≤ gb101)); clear HB; have HB := n0_; have BK101 := n1_; have GW101 := n2_; have GE101 := n3_; clear n0_ n1_ n2_ n3_; clear hb hbox hg; have hcz78_0 : w77.cell? ⟨gb101, 0, none⟩ = some (.slice A0_0 l0_0.length c0_0) := (blk_cell BK101.out 0).trans rfl; have hcz78_1 : w77.cell? ⟨gb101, 1, none⟩ = some (.int .i64 a0_1) := (blk_cell BK101.out 1).trans rfl; have hfz78_0 := blk_frozen BK101.out 0; have hfz78_1 := blk_frozen BK101.out 1) | ((with_reducible refine gate_callee (f := 9) rfl ?_); refine goesL_ (some 10) rfl rfl Tryz.func9 (by kernel_rfl) rfl #[.agg #[.slice A0_0 l0_0.length c0_0, .int .i64 a0_1]] rfl (qba6_) ?_; (with_reducible refine (grommetlaw14_large.calls k _ _ l0_0 a0_1 false _ ?side1 ?side2 (hG.below (qba0_)) A2.out).mono ?_); (case side1 => exact qba39_); (case side2 => exact HC0_0.out); rintro e w79 ⟨rfl, hb⟩; refine ⟨_, rfl, ?_⟩; have n0_ := Aside0.mk (blk_below (g := gb101) (o := .cells #[.slice A0_0 l0_0.length c0_0, .int .i64 a0_1] 24 (0, 0)) (qba1_) hb); have n1_ := Aside0.mk (below_step (qba2_) hb); clear BK101; clear HB; have BK101 := n0_; have HB := n1_; clear n0_ n1_; (try clear hb); (try clear hk); have hcz80_0 : w79.cell? ⟨gb101, 0, none⟩ = some (.slice A0_0 l0_0.length c0_0) := (blk_cell BK101.out 0).trans rfl; have hcz80_1 : w79.cell? ⟨gb101, 1, none⟩ = some (.int .i64 a0_1) := (blk_cell BK101.out 1).trans rfl; have hfz80_0 := blk_frozen BK101.out 0; have hfz80_1 := blk_frozen BK101.out 1) | ((with_reducible refine gate_callee (f := 11) rfl ?_); refine goesL_ (some 14) rfl rfl Tryz.func11 (by kernel_rfl) rfl #[.agg #[.slice A0_0 l0_0.length c0_0, .int .i64 a0_1]] rfl (qba6_) ?_; (with_reducible refine (lay_Tree.calls _ _ l0_0 a0_1 t104 t105 t106 t107 t110 _ ?side1 ?side2 (hG.below (qba0_)) A9.out).mono ?_); (case side1 => exact qba39_); (case side2 => exact HC0_0.out); rintro e w81 ⟨v108, rfl, ho0, hb⟩; refine ⟨_, rfl, ?_⟩; have n0_ := Aside0.mk (Kd.R_lower ho0 (below_size (qba2_))); have n1_ := Aside0.mk (blk_below (g := gb101) (o := .cells #[.slice A0_0 l0_0.length c0_0, .int .i64 a0_1] 24 (0, 0)) (qba1_) hb); have n2_ := Aside0.mk (below_step (qba2_) hb); clear BK101; clear HB; have HO109 := n0_; have BK101 := n1_; have HB := n2_; clear n0_ n1_ n2_; (try clear hb); (try clear hk); (try clear ho0)) | ((with_reducible refine gate_dst (N := 3) rfl ?_); refine box_event ?hg (N := 3) ?hd (cs := #[.int .i64 0, .string (⟨#[]⟩ : ByteArray), .string (⟨#[]⟩ : ByteArray), .slice none 0 0]) (t := 29) ?hr ?_; (case hd => rfl); (case hg => rfl); (case hr => first | (go_simp; done) | (go_simp; rfl)); intro gb111 hg w82 hbox hb; have n0_ := Aside0.mk (Kd.R_below (Kd.R_elderB (qba11_) gb111 (Nat.le_of_eq hg.symm)) hb); have n1_ := Aside0.mk (blk_below (g := gb101) (o := .cells #[.slice A0_0 l0_0.length c0_0, .int .i64 a0_1] 24 (0, 0)) (qba1_) hb); have n2_ := Aside0.mk (below_step (qba2_) hb); have n3_ := Aside0.mk (hbox); have n4_ := Aside0.mk ((by rw [hg]; exact (below_size (qba2_)) : w.heap.size ≤ gb111)); have n5_ := Aside0.mk ((by rw [hg]; exact (below_size (qba2_)) : w.heap.size ≤ gb111)); have n6_ := Aside0.mk ((by rw [hg]; exact Nat.ne_of_lt (blk_lt (g := gb101) (o := .cells #[.slice A0_0 l0_0.length c0_0, .int .i64 a0_1] 24 (0, 0)) (qba1_)) : gb101 ≠ gb111)); have n7_ := Aside0.mk ((by rw [hg]; exact Nat.ne_of_gt (blk_lt (g := gb101) (o := .cells #[.slice A0_0 l0_0.length c0_0, .int .i64 a0_1] 24 (0, 0)) (qba1_)) : gb111 ≠ gb101)); clear HO109; clear BK101; clear HB; have HO109 := n0_; have BK101 := n1_; have HB := n2_; have BK111 := n3_; have GW111 := n4_; have GE111 := n5_; have NB101_111 := n6_; have NB111_101 := n7_; clear n0_ n1_ n2_ n3_ n4_ n5_ n6_ n7_; clear hb hbox hg; have hnb83 := NB111_101.out; have hnc83 := NB101_111.out; have hcz84_0 : w82.cell? ⟨gb111, 0, none⟩ = some (.int .i64 0) := (blk_cell BK111.out 0).trans rfl; have hcz84_1 : w82.cell? ⟨gb111, 1, none⟩ = some (.string (⟨#[]⟩ : ByteArray)) := (blk_cell BK111.out 1).trans rfl; have hcz84_2 : w82.cell? ⟨gb111, 2, none⟩ = some (.string (⟨#[]⟩ : ByteArray)) := (blk_cell BK111.out 2).trans rfl; have hcz84_3 : w82.cell? ⟨gb111, 3, none⟩ = some (.slice none 0 0) := (blk_cell BK111.out 3).trans rfl; have hfz84_0 := blk_frozen BK111.out 0; have hfz84_1 := blk_frozen BK111.out 1; have hfz84_2 := blk_frozen BK111.out 2; have hfz84_3 := blk_frozen BK111.out 3; obtain ⟨Ao85, co85, eo85⟩ := Kd.R_slice HO109.out; subst eo85) | ((with_reducible refine gate_callee (f := 22) rfl ?_); refine goesL_ (some 27) rfl rfl Tryz.func22 (by kernel_rfl) rfl #[.agg #[.int .i64 t104, .string t105, .string t106, .slice Ao85 t107.length co85]] rfl (qba6_) ?_; (with_reducible refine (graph_Compose.calls t104 t105 t106 _ _ t107 t114 t117 t118 _ ?side1 ?side2 (hG.below (qba0_)) A11.out).mono ?_); (case side1 => refine (Kd.R_reads' (e := 29) (base := w.heap.size) (ok := fun k_ => (True ∧ k_ ≠ gb111)) (n := t107.length) (c := co85) ?_).2.2; exact (qba25_)); (case side2 => exact qba40_); rintro e w86 ⟨v115, rfl, ho0, hb⟩; refine ⟨_, rfl, ?_⟩; have n0_ := Aside0.mk (Kd.R_below (qba25_) hb); have n1_ := Aside0.mk (Kd.S_lower ho0 (below_size (qba5_))); have n2_ := Aside0.mk (blk_below (g := gb101) (o := .cells #[.slice A0_0 l0_0.length c0_0, .int .i64 a0_1] 24 (0, 0)) (qba7_) hb); have n3_ := Aside0.mk (blk_below (g := gb111) (o := .cells #[.int .i64 t104, .string t105, .string t106, .slice Ao85 t107.length co85] 29 (0, 0)) (qba4_) hb); have n4_ := Aside0.mk (below_step (qba5_) hb); clear HO109; clear BK101; clear BK111; clear HB; have HO109 := n0_; have HO116 := n1_; have BK101 := n2_; have BK111 := n3_; have HB := n4_; clear n0_ n1_ n2_ n3_ n4_; (try clear hb); (try clear hk); (try clear ho0)) | ((with_reducible refine gate_dst (N := 5) rfl ?_); refine box_event ?hg (N := 5) ?hd (cs := #[.slice none 0 0, .int .i64 0]) (t := 24) ?hr ?_; (case hd => rfl); (case hg => rfl); (case hr => first | (go_simp; done) | (go_simp; rfl)); intro gb119 hg w87 hbox hb; have n0_ := Aside0.mk (Kd.R_below (qba11_) hb); have n1_ := Aside0.mk (Kd.S_below (qba18_) hb); have n2_ := Aside0.mk (blk_below (g := gb101) (o := .cells #[.slice A0_0 l0_0.length c0_0, .int .i64 a0_1] 24 (0, 0)) (qba1_) hb); have n3_ := Aside0.mk (blk_below (g := gb111) (o := .cells #[.int .i64 t104, .string t105, .string t106, .slice Ao85 t107.length co85] 29 (0, 0)) (qba8_) hb); have n4_ := Aside0.mk (below_step (qba5_) hb); have n5_ := Aside0.mk (hbox); have n6_ := Aside0.mk ((by rw [hg]; exact (below_size (qba5_)) : w.heap.size ≤ gb119)); have n7_ := Aside0.mk ((by rw [hg]; exact (below_size (qba5_)) : w.heap.size ≤ gb119)); have n8_ := Aside0.mk ((by rw [hg]; exact Nat.ne_of_lt (blk_lt (g := gb101) (o := .cells #[.slice A0_0 l0_0.length c0_0, .int .i64 a0_1] 24 (0, 0)) (qba1_)) : gb101 ≠ gb119)); have n9_ := Aside0.mk ((by rw [hg]; exact Nat.ne_of_gt (blk_lt (g := gb101) (o := .cells #[.slice A0_0 l0_0.length c0_0, .int .i64 a0_1] 24 (0, 0)) (qba1_)) : gb119 ≠ gb101)); have n10_ := Aside0.mk ((by rw [hg]; exact Nat.ne_of_lt (blk_lt (g := gb111) (o := .cells #[.int .i64 t104, .string t105, .string t106, .slice Ao85 t107.length co85] 29 (0, 0)) (qba8_)) : gb111 ≠ gb119)); have n11_ := Aside0.mk ((by rw [hg]; exact Nat.ne_of_gt (blk_lt (g := gb111) (o := .cells #[.int .i64 t104, .string t105, .string t106, .slice Ao85 t107.length co85] 29 (0, 0)) (qba8_)) : gb119 ≠ gb111)); clear HO109; clear HO116; clear BK101; clear BK111; clear HB; have HO109 := n0_; have HO116 := n1_; have BK101 := n2_; have BK111 := n3_; have HB := n4_; have BK119 := n5_; have GW119 := n6_; have GE119 := n7_; have NB101_119 := n8_; have NB119_101 := n9_; have NB111_119 := n10_; have NB119_111 := n11_; clear n0_ n1_ n2_ n3_ n4_ n5_ n6_ n7_ n8_ n9_ n10_ n11_; clear hb hbox hg; obtain ⟨Ao88, co88, eo88⟩ := Kd.S_slice HO116.out; subst eo88; have hnb89 := NB119_101.out; have hnc89 := NB101_119.out; have hnb90 := NB119_111.out; have hnc90 := NB111_119.out; have hcz91_0 : w87.cell? ⟨gb119, 0, none⟩ = some (.slice none 0 0) := (blk_cell BK119.out 0).trans rfl; have hcz91_1 : w87.cell? ⟨gb119, 1, none⟩ = some (.int .i64 0) := (blk_cell BK119.out 1).trans rfl; have hfz91_0 := blk_frozen BK119.out 0; have hfz91_1 := blk_frozen BK119.out 1; have hcz92_0 : w87.cell? ⟨gb101, 0, none⟩ = some (.slice A0_0 l0_0.length c0_0) := (blk_cell BK101.out 0).trans rfl; have hcz92_1 : w87.cell? ⟨gb101, 1, none⟩ = some (.int .i64 a0_1) := (blk_cell BK101.out 1).trans rfl; have hfz92_0 := blk_frozen BK101.out 0; have hfz92_1 := blk_frozen BK101.out 1) | ((with_reducible refine gate_callee (f := 23) rfl ?_); refine goesL_ (some 32) rfl rfl Tryz.func23 (by kernel_rfl) rfl #[.agg #[.slice A0_0 l0_0.length c0_0, .int .i64 a0_1]] rfl (qba6_) ?_; (with_reducible refine (graph_Canon.calls _ _ l0_0 a0_1 t120 t123 t124 _ ?side1 ?side2 (hG.below (qba0_)) A12.out).mono ?_); (case side1 => exact Kd.C_below HR0_0.out (qba3_)); (case side2 => exact HC0_0.out); rintro e w93 ⟨v121, rfl, ho0, hb⟩; refine ⟨_, rfl, ?_⟩; have n0_ := Aside0.mk (Kd.R_below (by (with_reducible repeat (first | apply Kd.R_alloc | apply Kd.R_drewN | apply Kd.R_drew)); exact (Kd.R_mono (Kd.R_far (p := ⟨gb119, 1, none⟩) (Kd.R_far (p := ⟨gb119, 0, none⟩) (Kd.R_types HO109.out BK119.out (by decide)) (fun _ hk => hk.2) (.slice Ao88 t114.length co88)) (fun _ hk => hk.2) (.int .i64 t117)) (fun _ h_ => h_.1))) hb); have n1_ := Aside0.mk (Kd.S_elder' (qba32_) (Kd.S_base ho0) hb); have n2_ := Aside0.mk (Kd.S_lower (Kd.S_new' ho0 (Kd.S_lt (qba32_))) (below_size (qba3_))); have n3_ := Aside0.mk (blk_below (g := gb101) (o := .cells #[.slice A0_0 l0_0.length c0_0, .int .i64 a0_1] 24 (0, 0)) (qba17_) hb); have n4_ := Aside0.mk (blk_below (g := gb111) (o := .cells #[.int .i64 t104, .string t105, .string t106, .slice Ao85 t107.length co85] 29 (0, 0)) (qba15_) hb); have n5_ := Aside0.mk (blk_below (g := gb119) (o := .cells #[.slice Ao88 t114.length co88, .int .i64 t117] 24 (0, 0)) (by (with_reducible repeat (first | refine blk_drewN ?_ _ | refine blk_drew ?_ | refine blk_alloc ?_ _)); refine blk_put (cs := #[.slice Ao88 t114.length co88, .int .i64 0]) ?_ 1 _ rfl; (with_reducible repeat (first | refine blk_drewN ?_ _ | refine blk_drew ?_ | refine blk_alloc ?_ _)); refine blk_put (cs := #[.slice none 0 0, .int .i64 0]) ?_ 0 _ rfl; (with_reducible repeat (first | refine blk_drewN ?_ _ | refine blk_drew ?_ | refine blk_alloc ?_ _)); exact BK119.out) hb); have n6_ := Aside0.mk (below_step (qba3_) hb); clear HO109; clear HO116; clear BK101; clear BK111; clear BK119; clear HB; have HO109 := n0_; have HO116 := n1_; have HO122 := n2_; have BK101 := n3_; have BK111 := n4_; have BK119 := n5_; have HB := n6_; clear n0_ n1_ n2_ n3_ n4_ n5_ n6_; (try clear hb); (try clear hk); (try clear ho0)) | ((with_reducible refine gate_dst (N := 7) rfl ?_); refine box_event ?hg (N := 7) ?hd (cs := #[.slice none 0 0, .int .i64 0]) (t := 24) ?hr ?_; (case hd => rfl); (case hg => rfl); (case hr => first | (go_simp; done) | (go_simp; rfl)); intro gb125 hg w94 hbox hb; have n0_ := Aside0.mk (Kd.R_below (qba11_) hb); have n1_ := Aside0.mk (Kd.S_below (qba18_) hb); have n2_ := Aside0.mk (Kd.S_below (qba19_) hb); have n3_ := Aside0.mk (blk_below (g := gb101) (o := .cells #[.slice A0_0 l0_0.length c0_0, .int .i64 a0_1] 24 (0, 0)) (qba1_) hb); have n4_ := Aside0.mk (blk_below (g := gb111) (o := .cells #[.int .i64 t104, .string t105, .string t106, .slice Ao85 t107.length co85] 29 (0, 0)) (qba8_) hb); have n5_ := Aside0.mk (blk_below (g := gb119) (o := .cells #[.slice Ao88 t114.length co88, .int .i64 t117] 24 (0, 0)) (qba12_) hb); have n6_ := Aside0.mk (below_step (qba3_) hb); have n7_ := Aside0.mk (hbox); have n8_ := Aside0.mk ((by rw [hg]; exact (below_size (qba3_)) : w.heap.size ≤ gb125)); have n9_ := Aside0.mk ((by rw [hg]; exact (below_size (qba3_)) : w.heap.size ≤ gb125)); have n10_ := Aside0.mk ((by rw [hg]; exact Nat.ne_of_lt (blk_lt (g := gb101) (o := .cells #[.slice A0_0 l0_0.length c0_0, .int .i64 a0_1] 24 (0, 0)) (qba1_)) : gb101 ≠ gb125)); have n11_ := Aside0.mk ((by rw [hg]; exact Nat.ne_of_gt (blk_lt (g := gb101) (o := .cells #[.slice A0_0 l0_0.length c0_0, .int .i64 a0_1] 24 (0, 0)) (qba1_)) : gb125 ≠ gb101)); have n12_ := Aside0.mk ((by rw [hg]; exact Nat.ne_of_lt (blk_lt (g := gb111) (o := .cells #[.int .i64 t104, .string t105, .string t106, .slice Ao85 t107.length co85] 29 (0, 0)) (qba8_)) : gb111 ≠ gb125)); have n13_ := Aside0.mk ((by rw [hg]; exact Nat.ne_of_gt (blk_lt (g := gb111) (o := .cells #[.int .i64 t104, .string t105, .string t106, .slice Ao85 t107.length co85] 29 (0, 0)) (qba8_)) : gb125 ≠ gb111)); have n14_ := Aside0.mk ((by rw [hg]; exact Nat.ne_of_lt (blk_lt (g := gb119) (o := .cells #[.slice Ao88 t114.length co88, .int .i64 t117] 24 (0, 0)) (qba12_)) : gb119 ≠ gb125)); have n15_ := Aside0.mk ((by rw [hg]; exact Nat.ne_of_gt (blk_lt (g := gb119) (o := .cells #[.slice Ao88 t114.length co88, .int .i64 t117] 24 (0, 0)) (qba12_)) : gb125 ≠ gb119)); clear HO109; clear HO116; clear HO122; clear BK101; clear BK111; clear BK119; clear HB; have HO109 := n0_; have HO116 := n1_; have HO122 := n2_; have BK101 := n3_; have BK111 := n4_; have BK119 := n5_; have HB := n6_; have BK125 := n7_; have GW125 := n8_; have GE125 := n9_; have NB101_125 := n10_; have NB125_101 := n11_; have NB111_125 := n12_; have NB125_111 := n13_; have NB119_125 := n14_; have NB125_119 := n15_; clear n0_ n1_ n2_ n3_ n4_ n5_ n6_ n7_ n8_ n9_ n10_ n11_ n12_ n13_ n14_ n15_; clear hb hbox hg; obtain ⟨Ao95, co95, eo95⟩ := Kd.S_slice HO122.out; subst eo95; have hnb96 := NB125_101.out; have hnc96 := NB101_125.out; have hnb97 := NB125_111.out; have hnc97 := NB111_125.out; have hnb98 := NB125_119.out; have hnc98 := NB119_125.out; have hcz99_0 : w94.cell? ⟨gb125, 0, none⟩ = some (.slice none 0 0) := (blk_cell BK125.out 0).trans rfl; have hcz99_1 : w94.cell? ⟨gb125, 1, none⟩ = some (.int .i64 0) := (blk_cell BK125.out 1).trans rfl; have hfz99_0 := blk_frozen BK125.out 0; have hfz99_1 := blk_frozen BK125.out 1; have hcz100_0 : w94.cell? ⟨gb111, 0, none⟩ = some (.int .i64 t104) := (blk_cell BK111.out 0).trans rfl; have hcz100_1 : w94.cell? ⟨gb111, 1, none⟩ = some (.string t105) := (blk_cell BK111.out 1).trans rfl; have hcz100_2 : w94.cell? ⟨gb111, 2, none⟩ = some (.string t106) := (blk_cell BK111.out 2).trans rfl; have hcz100_3 : w94.cell? ⟨gb111, 3, none⟩ = some (.slice Ao85 t107.length co85) := (blk_cell BK111.out 3).trans rfl; have hfz100_0 := blk_frozen BK111.out 0; have hfz100_1 := blk_frozen BK111.out 1; have hfz100_2 := blk_frozen BK111.out 2; have hfz100_3 := blk_frozen BK111.out 3) | ((with_reducible refine gate_callee (f := 24) rfl ?_); refine goesL_ (some 36) rfl rfl Tryz.func24 (by kernel_rfl) rfl #[.agg #[.int .i64 t104, .string t105, .string t106, .slice Ao85 t107.length co85]] rfl (qba6_) ?_; (with_reducible refine (flow_Right.calls t104 t105 t106 _ _ t107 true _ ?side1 ?side2 (hG.below (qba0_)) A13.out).mono ?_); (case side1 => refine (Kd.R_reads' (e := 29) (base := w.heap.size) (ok := fun k_ => (True ∧ k_ ≠ gb111)) (n := t107.length) (c := co85) ?_).2.2; exact (qba35_)); (case side2 => exact qba40_); rintro e w101 ⟨rfl, hb⟩; refine ⟨_, rfl, ?_⟩; have n0_ := Aside0.mk (Kd.R_below (qba35_) hb); have n1_ := Aside0.mk (Kd.S_below (by (with_reducible repeat (first | apply Kd.S_alloc | apply Kd.S_drewN | apply Kd.S_drew)); exact (Kd.S_mono (Kd.S_far (p := ⟨gb125, 1, none⟩) (Kd.S_far (p := ⟨gb125, 0, none⟩) (Kd.S_types HO116.out BK125.out (by decide)) (fun _ hk => hk.2) (.slice Ao95 t120.length co95)) (fun _ hk => hk.2) (.int .i64 t123)) (fun _ h_ => h_.1))) hb); have n2_ := Aside0.mk (Kd.S_below (by (with_reducible repeat (first | apply Kd.S_alloc | apply Kd.S_drewN | apply Kd.S_drew)); exact (Kd.S_mono (Kd.S_far (p := ⟨gb125, 1, none⟩) (Kd.S_far (p := ⟨gb125, 0, none⟩) (Kd.S_types HO122.out BK125.out (by decide)) (fun _ hk => hk.2) (.slice Ao95 t120.length co95)) (fun _ hk => hk.2) (.int .i64 t123)) (fun _ h_ => h_.1))) hb); have n3_ := Aside0.mk (blk_below (g := gb101) (o := .cells #[.slice A0_0 l0_0.length c0_0, .int .i64 a0_1] 24 (0, 0)) (qba16_) hb); have n4_ := Aside0.mk (blk_below (g := gb111) (o := .cells #[.int .i64 t104, .string t105, .string t106, .slice Ao85 t107.length co85] 29 (0, 0)) (qba14_) hb); have n5_ := Aside0.mk (blk_below (g := gb119) (o := .cells #[.slice Ao88 t114.length co88, .int .i64 t117] 24 (0, 0)) (qba13_) hb); have n6_ := Aside0.mk (blk_below (g := gb125) (o := .cells #[.slice Ao95 t120.length co95, .int .i64 t123] 24 (0, 0)) (by (with_reducible repeat (first | refine blk_drewN ?_ _ | refine blk_drew ?_ | refine blk_alloc ?_ _)); refine blk_put (cs := #[.slice Ao95 t120.length co95, .int .i64 0]) ?_ 1 _ rfl; (with_reducible repeat (first | refine blk_drewN ?_ _ | refine blk_drew ?_ | refine blk_alloc ?_ _)); refine blk_put (cs := #[.slice none 0 0, .int .i64 0]) ?_ 0 _ rfl; (with_reducible repeat (first | refine blk_drewN ?_ _ | refine blk_drew ?_ | refine blk_alloc ?_ _)); exact BK125.out) hb); have n7_ := Aside0.mk (below_step (qba9_) hb); clear HO109; clear HO116; clear HO122; clear BK101; clear BK111; clear BK119; clear BK125; clear HB; have HO109 := n0_; have HO116 := n1_; have HO122 := n2_; have BK101 := n3_; have BK111 := n4_; have BK119 := n5_; have BK125 := n6_; have HB := n7_; clear n0_ n1_ n2_ n3_ n4_ n5_ n6_ n7_; (try clear hb); (try clear hk)))
  go_ret
  exact ⟨qba20_, qba9_⟩
 rw [if_pos c16] at H
 have c16b0 : (t124 == 0) = true := beq_iff_eq.mpr c16
 have c16b1 : (t124 != 0) = false := bne_eq_false_iff_eq.mpr c16
 clear c16
 replace H := Option.bind_eq_some_iff.mp H
 obtain ⟨t127, A170, H⟩ := H
 replace H : (if t127 = true then ((grommetlaw14_alive.f).bind fun t128 => (some t128)) else (some false)) = some r := H
 have A17 := Aside0.mk A170
 clear A170
 by_cases c18 : t127 = true
 rotate_left
 ·
  replace c18 := Bool.eq_false_iff.mpr c18
  subst c18
  have H1 : (some false) = some r := by rw [if_neg (show ¬ (false = true) by decide)] at H; exact H
  clear H
  have H := H1
  clear H1
  obtain rfl := Option.some.inj H
  go_enter Tryz.func7, Tryz.ntmps7
  go_wp2_with (first | ((with_reducible refine gate_dst (N := 1) rfl ?_); refine box_event ?hg (N := 1) ?hd (cs := #[.slice A0_0 l0_0.length c0_0, .int .i64 a0_1]) (t := 24) ?hr ?_; (case hd => rfl); (case hg => rfl); (case hr => first | (go_simp; done) | (go_simp; rfl)); intro gb101 hg w49 hbox hb; have n0_ := Aside0.mk (below_step (qba10_) hb); have n1_ := Aside0.mk (hbox); have n2_ := Aside0.mk ((by rw [hg]; exact (below_size (qba10_)) : w.heap.size ≤ gb101)); have n3_ := Aside0.mk ((by rw [hg]; exact (below_size (qba10_)) : w.heap.size ≤ gb101)); clear HB; have HB := n0_; have BK101 := n1_; have GW101 := n2_; have GE101 := n3_; clear n0_ n1_ n2_ n3_; clear hb hbox hg; have hcz50_0 : w49.cell? ⟨gb101, 0, none⟩ = some (.slice A0_0 l0_0.length c0_0) := (blk_cell BK101.out 0).trans rfl; have hcz50_1 : w49.cell? ⟨gb101, 1, none⟩ = some (.int .i64 a0_1) := (blk_cell BK101.out 1).trans rfl; have hfz50_0 := blk_frozen BK101.out 0; have hfz50_1 := blk_frozen BK101.out 1) | ((with_reducible refine gate_callee (f := 9) rfl ?_); refine goesL_ (some 10) rfl rfl Tryz.func9 (by kernel_rfl) rfl #[.agg #[.slice A0_0 l0_0.length c0_0, .int .i64 a0_1]] rfl (qba6_) ?_; (with_reducible refine (grommetlaw14_large.calls k _ _ l0_0 a0_1 false _ ?side1 ?side2 (hG.below (qba0_)) A2.out).mono ?_); (case side1 => exact qba39_); (case side2 => exact HC0_0.out); rintro e w51 ⟨rfl, hb⟩; refine ⟨_, rfl, ?_⟩; have n0_ := Aside0.mk (blk_below (g := gb101) (o := .cells #[.slice A0_0 l0_0.length c0_0, .int .i64 a0_1] 24 (0, 0)) (qba1_) hb); have n1_ := Aside0.mk (below_step (qba2_) hb); clear BK101; clear HB; have BK101 := n0_; have HB := n1_; clear n0_ n1_; (try clear hb); (try clear hk); have hcz52_0 : w51.cell? ⟨gb101, 0, none⟩ = some (.slice A0_0 l0_0.length c0_0) := (blk_cell BK101.out 0).trans rfl; have hcz52_1 : w51.cell? ⟨gb101, 1, none⟩ = some (.int .i64 a0_1) := (blk_cell BK101.out 1).trans rfl; have hfz52_0 := blk_frozen BK101.out 0; have hfz52_1 := blk_frozen BK101.out 1) | ((with_reducible refine gate_callee (f := 11) rfl ?_); refine goesL_ (some 14) rfl rfl Tryz.func11 (by kernel_rfl) rfl #[.agg #[.slice A0_0 l0_0.length c0_0, .int .i64 a0_1]] rfl (qba6_) ?_; (with_reducible refine (lay_Tree.calls _ _ l0_0 a0_1 t104 t105 t106 t107 t110 _ ?side1 ?side2 (hG.below (qba0_)) A9.out).mono ?_); (case side1 => exact qba39_); (case side2 => exact HC0_0.out); rintro e w53 ⟨v108, rfl, ho0, hb⟩; refine ⟨_, rfl, ?_⟩; have n0_ := Aside0.mk (Kd.R_lower ho0 (below_size (qba2_))); have n1_ := Aside0.mk (blk_below (g := gb101) (o := .cells #[.slice A0_0 l0_0.length c0_0, .int .i64 a0_1] 24 (0, 0)) (qba1_) hb); have n2_ := Aside0.mk (below_step (qba2_) hb); clear BK101; clear HB; have HO109 := n0_; have BK101 := n1_; have HB := n2_; clear n0_ n1_ n2_; (try clear hb); (try clear hk); (try clear ho0)) | ((with_reducible refine gate_dst (N := 3) rfl ?_); refine box_event ?hg (N := 3) ?hd (cs := #[.int .i64 0, .string (⟨#[]⟩ : ByteArray), .string (⟨#[]⟩ : ByteArray), .slice none 0 0]) (t := 29) ?hr ?_; (case hd => rfl); (case hg => rfl); (case hr => first | (go_simp; done) | (go_simp; rfl)); intro gb111 hg w54 hbox hb; have n0_ := Aside0.mk (Kd.R_below (Kd.R_elderB (qba11_) gb111 (Nat.le_of_eq hg.symm)) hb); have n1_ := Aside0.mk (blk_below (g := gb101) (o := .cells #[.slice A0_0 l0_0.length c0_0, .int .i64 a0_1] 24 (0, 0)) (qba1_) hb); have n2_ := Aside0.mk (below_step (qba2_) hb); have n3_ := Aside0.mk (hbox); have n4_ := Aside0.mk ((by rw [hg]; exact (below_size (qba2_)) : w.heap.size ≤ gb111)); have n5_ := Aside0.mk ((by rw [hg]; exact (below_size (qba2_)) : w.heap.size ≤ gb111)); have n6_ := Aside0.mk ((by rw [hg]; exact Nat.ne_of_lt (blk_lt (g := gb101) (o := .cells #[.slice A0_0 l0_0.length c0_0, .int .i64 a0_1] 24 (0, 0)) (qba1_)) : gb101 ≠ gb111)); have n7_ := Aside0.mk ((by rw [hg]; exact Nat.ne_of_gt (blk_lt (g := gb101) (o := .cells #[.slice A0_0 l0_0.length c0_0, .int .i64 a0_1] 24 (0, 0)) (qba1_)) : gb111 ≠ gb101)); clear HO109; clear BK101; clear HB; have HO109 := n0_; have BK101 := n1_; have HB := n2_; have BK111 := n3_; have GW111 := n4_; have GE111 := n5_; have NB101_111 := n6_; have NB111_101 := n7_; clear n0_ n1_ n2_ n3_ n4_ n5_ n6_ n7_; clear hb hbox hg; have hnb55 := NB111_101.out; have hnc55 := NB101_111.out; have hcz56_0 : w54.cell? ⟨gb111, 0, none⟩ = some (.int .i64 0) := (blk_cell BK111.out 0).trans rfl; have hcz56_1 : w54.cell? ⟨gb111, 1, none⟩ = some (.string (⟨#[]⟩ : ByteArray)) := (blk_cell BK111.out 1).trans rfl; have hcz56_2 : w54.cell? ⟨gb111, 2, none⟩ = some (.string (⟨#[]⟩ : ByteArray)) := (blk_cell BK111.out 2).trans rfl; have hcz56_3 : w54.cell? ⟨gb111, 3, none⟩ = some (.slice none 0 0) := (blk_cell BK111.out 3).trans rfl; have hfz56_0 := blk_frozen BK111.out 0; have hfz56_1 := blk_frozen BK111.out 1; have hfz56_2 := blk_frozen BK111.out 2; have hfz56_3 := blk_frozen BK111.out 3; obtain ⟨Ao57, co57, eo57⟩ := Kd.R_slice HO109.out; subst eo57) | ((with_reducible refine gate_callee (f := 22) rfl ?_); refine goesL_ (some 27) rfl rfl Tryz.func22 (by kernel_rfl) rfl #[.agg #[.int .i64 t104, .string t105, .string t106, .slice Ao57 t107.length co57]] rfl (qba6_) ?_; (with_reducible refine (graph_Compose.calls t104 t105 t106 _ _ t107 t114 t117 t118 _ ?side1 ?side2 (hG.below (qba0_)) A11.out).mono ?_); (case side1 => refine (Kd.R_reads' (e := 29) (base := w.heap.size) (ok := fun k_ => (True ∧ k_ ≠ gb111)) (n := t107.length) (c := co57) ?_).2.2; exact (qba26_)); (case side2 => exact qba40_); rintro e w58 ⟨v115, rfl, ho0, hb⟩; refine ⟨_, rfl, ?_⟩; have n0_ := Aside0.mk (Kd.R_below (qba26_) hb); have n1_ := Aside0.mk (Kd.S_lower ho0 (below_size (qba5_))); have n2_ := Aside0.mk (blk_below (g := gb101) (o := .cells #[.slice A0_0 l0_0.length c0_0, .int .i64 a0_1] 24 (0, 0)) (qba7_) hb); have n3_ := Aside0.mk (blk_below (g := gb111) (o := .cells #[.int .i64 t104, .string t105, .string t106, .slice Ao57 t107.length co57] 29 (0, 0)) (qba4_) hb); have n4_ := Aside0.mk (below_step (qba5_) hb); clear HO109; clear BK101; clear BK111; clear HB; have HO109 := n0_; have HO116 := n1_; have BK101 := n2_; have BK111 := n3_; have HB := n4_; clear n0_ n1_ n2_ n3_ n4_; (try clear hb); (try clear hk); (try clear ho0)) | ((with_reducible refine gate_dst (N := 5) rfl ?_); refine box_event ?hg (N := 5) ?hd (cs := #[.slice none 0 0, .int .i64 0]) (t := 24) ?hr ?_; (case hd => rfl); (case hg => rfl); (case hr => first | (go_simp; done) | (go_simp; rfl)); intro gb119 hg w59 hbox hb; have n0_ := Aside0.mk (Kd.R_below (qba11_) hb); have n1_ := Aside0.mk (Kd.S_below (qba18_) hb); have n2_ := Aside0.mk (blk_below (g := gb101) (o := .cells #[.slice A0_0 l0_0.length c0_0, .int .i64 a0_1] 24 (0, 0)) (qba1_) hb); have n3_ := Aside0.mk (blk_below (g := gb111) (o := .cells #[.int .i64 t104, .string t105, .string t106, .slice Ao57 t107.length co57] 29 (0, 0)) (qba8_) hb); have n4_ := Aside0.mk (below_step (qba5_) hb); have n5_ := Aside0.mk (hbox); have n6_ := Aside0.mk ((by rw [hg]; exact (below_size (qba5_)) : w.heap.size ≤ gb119)); have n7_ := Aside0.mk ((by rw [hg]; exact (below_size (qba5_)) : w.heap.size ≤ gb119)); have n8_ := Aside0.mk ((by rw [hg]; exact Nat.ne_of_lt (blk_lt (g := gb101) (o := .cells #[.slice A0_0 l0_0.length c0_0, .int .i64 a0_1] 24 (0, 0)) (qba1_)) : gb101 ≠ gb119)); have n9_ := Aside0.mk ((by rw [hg]; exact Nat.ne_of_gt (blk_lt (g := gb101) (o := .cells #[.slice A0_0 l0_0.length c0_0, .int .i64 a0_1] 24 (0, 0)) (qba1_)) : gb119 ≠ gb101)); have n10_ := Aside0.mk ((by rw [hg]; exact Nat.ne_of_lt (blk_lt (g := gb111) (o := .cells #[.int .i64 t104, .string t105, .string t106, .slice Ao57 t107.length co57] 29 (0, 0)) (qba8_)) : gb111 ≠ gb119)); have n11_ := Aside0.mk ((by rw [hg]; exact Nat.ne_of_gt (blk_lt (g := gb111) (o := .cells #[.int .i64 t104, .string t105, .string t106, .slice Ao57 t107.length co57] 29 (0, 0)) (qba8_)) : gb119 ≠ gb111)); clear HO109; clear HO116; clear BK101; clear BK111; clear HB; have HO109 := n0_; have HO116 := n1_; have BK101 := n2_; have BK111 := n3_; have HB := n4_; have BK119 := n5_; have GW119 := n6_; have GE119 := n7_; have NB101_119 := n8_; have NB119_101 := n9_; have NB111_119 := n10_; have NB119_111 := n11_; clear n0_ n1_ n2_ n3_ n4_ n5_ n6_ n7_ n8_ n9_ n10_ n11_; clear hb hbox hg; obtain ⟨Ao60, co60, eo60⟩ := Kd.S_slice HO116.out; subst eo60; have hnb61 := NB119_101.out; have hnc61 := NB101_119.out; have hnb62 := NB119_111.out; have hnc62 := NB111_119.out; have hcz63_0 : w59.cell? ⟨gb119, 0, none⟩ = some (.slice none 0 0) := (blk_cell BK119.out 0).trans rfl; have hcz63_1 : w59.cell? ⟨gb119, 1, none⟩ = some (.int .i64 0) := (blk_cell BK119.out 1).trans rfl; have hfz63_0 := blk_frozen BK119.out 0; have hfz63_1 := blk_frozen BK119.out 1; have hcz64_0 : w59.cell? ⟨gb101, 0, none⟩ = some (.slice A0_0 l0_0.length c0_0) := (blk_cell BK101.out 0).trans rfl; have hcz64_1 : w59.cell? ⟨gb101, 1, none⟩ = some (.int .i64 a0_1) := (blk_cell BK101.out 1).trans rfl; have hfz64_0 := blk_frozen BK101.out 0; have hfz64_1 := blk_frozen BK101.out 1) | ((with_reducible refine gate_callee (f := 23) rfl ?_); refine goesL_ (some 32) rfl rfl Tryz.func23 (by kernel_rfl) rfl #[.agg #[.slice A0_0 l0_0.length c0_0, .int .i64 a0_1]] rfl (qba6_) ?_; (with_reducible refine (graph_Canon.calls _ _ l0_0 a0_1 t120 t123 t124 _ ?side1 ?side2 (hG.below (qba0_)) A12.out).mono ?_); (case side1 => exact Kd.C_below HR0_0.out (qba3_)); (case side2 => exact HC0_0.out); rintro e w65 ⟨v121, rfl, ho0, hb⟩; refine ⟨_, rfl, ?_⟩; have n0_ := Aside0.mk (Kd.R_below (by (with_reducible repeat (first | apply Kd.R_alloc | apply Kd.R_drewN | apply Kd.R_drew)); exact (Kd.R_mono (Kd.R_far (p := ⟨gb119, 1, none⟩) (Kd.R_far (p := ⟨gb119, 0, none⟩) (Kd.R_types HO109.out BK119.out (by decide)) (fun _ hk => hk.2) (.slice Ao60 t114.length co60)) (fun _ hk => hk.2) (.int .i64 t117)) (fun _ h_ => h_.1))) hb); have n1_ := Aside0.mk (Kd.S_elder' (qba33_) (Kd.S_base ho0) hb); have n2_ := Aside0.mk (Kd.S_lower (Kd.S_new' ho0 (Kd.S_lt (qba33_))) (below_size (qba3_))); have n3_ := Aside0.mk (blk_below (g := gb101) (o := .cells #[.slice A0_0 l0_0.length c0_0, .int .i64 a0_1] 24 (0, 0)) (qba17_) hb); have n4_ := Aside0.mk (blk_below (g := gb111) (o := .cells #[.int .i64 t104, .string t105, .string t106, .slice Ao57 t107.length co57] 29 (0, 0)) (qba15_) hb); have n5_ := Aside0.mk (blk_below (g := gb119) (o := .cells #[.slice Ao60 t114.length co60, .int .i64 t117] 24 (0, 0)) (by (with_reducible repeat (first | refine blk_drewN ?_ _ | refine blk_drew ?_ | refine blk_alloc ?_ _)); refine blk_put (cs := #[.slice Ao60 t114.length co60, .int .i64 0]) ?_ 1 _ rfl; (with_reducible repeat (first | refine blk_drewN ?_ _ | refine blk_drew ?_ | refine blk_alloc ?_ _)); refine blk_put (cs := #[.slice none 0 0, .int .i64 0]) ?_ 0 _ rfl; (with_reducible repeat (first | refine blk_drewN ?_ _ | refine blk_drew ?_ | refine blk_alloc ?_ _)); exact BK119.out) hb); have n6_ := Aside0.mk (below_step (qba3_) hb); clear HO109; clear HO116; clear BK101; clear BK111; clear BK119; clear HB; have HO109 := n0_; have HO116 := n1_; have HO122 := n2_; have BK101 := n3_; have BK111 := n4_; have BK119 := n5_; have HB := n6_; clear n0_ n1_ n2_ n3_ n4_ n5_ n6_; (try clear hb); (try clear hk); (try clear ho0)) | ((with_reducible refine gate_dst (N := 7) rfl ?_); refine box_event ?hg (N := 7) ?hd (cs := #[.slice none 0 0, .int .i64 0]) (t := 24) ?hr ?_; (case hd => rfl); (case hg => rfl); (case hr => first | (go_simp; done) | (go_simp; rfl)); intro gb125 hg w66 hbox hb; have n0_ := Aside0.mk (Kd.R_below (qba11_) hb); have n1_ := Aside0.mk (Kd.S_below (qba18_) hb); have n2_ := Aside0.mk (Kd.S_below (qba19_) hb); have n3_ := Aside0.mk (blk_below (g := gb101) (o := .cells #[.slice A0_0 l0_0.length c0_0, .int .i64 a0_1] 24 (0, 0)) (qba1_) hb); have n4_ := Aside0.mk (blk_below (g := gb111) (o := .cells #[.int .i64 t104, .string t105, .string t106, .slice Ao57 t107.length co57] 29 (0, 0)) (qba8_) hb); have n5_ := Aside0.mk (blk_below (g := gb119) (o := .cells #[.slice Ao60 t114.length co60, .int .i64 t117] 24 (0, 0)) (qba12_) hb); have n6_ := Aside0.mk (below_step (qba3_) hb); have n7_ := Aside0.mk (hbox); have n8_ := Aside0.mk ((by rw [hg]; exact (below_size (qba3_)) : w.heap.size ≤ gb125)); have n9_ := Aside0.mk ((by rw [hg]; exact (below_size (qba3_)) : w.heap.size ≤ gb125)); have n10_ := Aside0.mk ((by rw [hg]; exact Nat.ne_of_lt (blk_lt (g := gb101) (o := .cells #[.slice A0_0 l0_0.length c0_0, .int .i64 a0_1] 24 (0, 0)) (qba1_)) : gb101 ≠ gb125)); have n11_ := Aside0.mk ((by rw [hg]; exact Nat.ne_of_gt (blk_lt (g := gb101) (o := .cells #[.slice A0_0 l0_0.length c0_0, .int .i64 a0_1] 24 (0, 0)) (qba1_)) : gb125 ≠ gb101)); have n12_ := Aside0.mk ((by rw [hg]; exact Nat.ne_of_lt (blk_lt (g := gb111) (o := .cells #[.int .i64 t104, .string t105, .string t106, .slice Ao57 t107.length co57] 29 (0, 0)) (qba8_)) : gb111 ≠ gb125)); have n13_ := Aside0.mk ((by rw [hg]; exact Nat.ne_of_gt (blk_lt (g := gb111) (o := .cells #[.int .i64 t104, .string t105, .string t106, .slice Ao57 t107.length co57] 29 (0, 0)) (qba8_)) : gb125 ≠ gb111)); have n14_ := Aside0.mk ((by rw [hg]; exact Nat.ne_of_lt (blk_lt (g := gb119) (o := .cells #[.slice Ao60 t114.length co60, .int .i64 t117] 24 (0, 0)) (qba12_)) : gb119 ≠ gb125)); have n15_ := Aside0.mk ((by rw [hg]; exact Nat.ne_of_gt (blk_lt (g := gb119) (o := .cells #[.slice Ao60 t114.length co60, .int .i64 t117] 24 (0, 0)) (qba12_)) : gb125 ≠ gb119)); clear HO109; clear HO116; clear HO122; clear BK101; clear BK111; clear BK119; clear HB; have HO109 := n0_; have HO116 := n1_; have HO122 := n2_; have BK101 := n3_; have BK111 := n4_; have BK119 := n5_; have HB := n6_; have BK125 := n7_; have GW125 := n8_; have GE125 := n9_; have NB101_125 := n10_; have NB125_101 := n11_; have NB111_125 := n12_; have NB125_111 := n13_; have NB119_125 := n14_; have NB125_119 := n15_; clear n0_ n1_ n2_ n3_ n4_ n5_ n6_ n7_ n8_ n9_ n10_ n11_ n12_ n13_ n14_ n15_; clear hb hbox hg; obtain ⟨Ao67, co67, eo67⟩ := Kd.S_slice HO122.out; subst eo67; have hnb68 := NB125_101.out; have hnc68 := NB101_125.out; have hnb69 := NB125_111.out; have hnc69 := NB111_125.out; have hnb70 := NB125_119.out; have hnc70 := NB119_125.out; have hcz71_0 : w66.cell? ⟨gb125, 0, none⟩ = some (.slice none 0 0) := (blk_cell BK125.out 0).trans rfl; have hcz71_1 : w66.cell? ⟨gb125, 1, none⟩ = some (.int .i64 0) := (blk_cell BK125.out 1).trans rfl; have hfz71_0 := blk_frozen BK125.out 0; have hfz71_1 := blk_frozen BK125.out 1; have hcz72_0 : w66.cell? ⟨gb111, 0, none⟩ = some (.int .i64 t104) := (blk_cell BK111.out 0).trans rfl; have hcz72_1 : w66.cell? ⟨gb111, 1, none⟩ = some (.string t105) := (blk_cell BK111.out 1).trans rfl; have hcz72_2 : w66.cell? ⟨gb111, 2, none⟩ = some (.string t106) := (blk_cell BK111.out 2).trans rfl; have hcz72_3 : w66.cell? ⟨gb111, 3, none⟩ = some (.slice Ao57 t107.length co57) := (blk_cell BK111.out 3).trans rfl; have hfz72_0 := blk_frozen BK111.out 0; have hfz72_1 := blk_frozen BK111.out 1; have hfz72_2 := blk_frozen BK111.out 2; have hfz72_3 := blk_frozen BK111.out 3) | ((with_reducible refine gate_callee (f := 24) rfl ?_); refine goesL_ (some 36) rfl rfl Tryz.func24 (by kernel_rfl) rfl #[.agg #[.int .i64 t104, .string t105, .string t106, .slice Ao57 t107.length co57]] rfl (qba6_) ?_; (with_reducible refine (flow_Right.calls t104 t105 t106 _ _ t107 true _ ?side1 ?side2 (hG.below (qba0_)) A13.out).mono ?_); (case side1 => refine (Kd.R_reads' (e := 29) (base := w.heap.size) (ok := fun k_ => (True ∧ k_ ≠ gb111)) (n := t107.length) (c := co57) ?_).2.2; exact (qba36_)); (case side2 => exact qba40_); rintro e w73 ⟨rfl, hb⟩; refine ⟨_, rfl, ?_⟩; have n0_ := Aside0.mk (Kd.R_below (qba36_) hb); have n1_ := Aside0.mk (Kd.S_below (by (with_reducible repeat (first | apply Kd.S_alloc | apply Kd.S_drewN | apply Kd.S_drew)); exact (Kd.S_mono (Kd.S_far (p := ⟨gb125, 1, none⟩) (Kd.S_far (p := ⟨gb125, 0, none⟩) (Kd.S_types HO116.out BK125.out (by decide)) (fun _ hk => hk.2) (.slice Ao67 t120.length co67)) (fun _ hk => hk.2) (.int .i64 t123)) (fun _ h_ => h_.1))) hb); have n2_ := Aside0.mk (Kd.S_below (by (with_reducible repeat (first | apply Kd.S_alloc | apply Kd.S_drewN | apply Kd.S_drew)); exact (Kd.S_mono (Kd.S_far (p := ⟨gb125, 1, none⟩) (Kd.S_far (p := ⟨gb125, 0, none⟩) (Kd.S_types HO122.out BK125.out (by decide)) (fun _ hk => hk.2) (.slice Ao67 t120.length co67)) (fun _ hk => hk.2) (.int .i64 t123)) (fun _ h_ => h_.1))) hb); have n3_ := Aside0.mk (blk_below (g := gb101) (o := .cells #[.slice A0_0 l0_0.length c0_0, .int .i64 a0_1] 24 (0, 0)) (qba16_) hb); have n4_ := Aside0.mk (blk_below (g := gb111) (o := .cells #[.int .i64 t104, .string t105, .string t106, .slice Ao57 t107.length co57] 29 (0, 0)) (qba14_) hb); have n5_ := Aside0.mk (blk_below (g := gb119) (o := .cells #[.slice Ao60 t114.length co60, .int .i64 t117] 24 (0, 0)) (qba13_) hb); have n6_ := Aside0.mk (blk_below (g := gb125) (o := .cells #[.slice Ao67 t120.length co67, .int .i64 t123] 24 (0, 0)) (by (with_reducible repeat (first | refine blk_drewN ?_ _ | refine blk_drew ?_ | refine blk_alloc ?_ _)); refine blk_put (cs := #[.slice Ao67 t120.length co67, .int .i64 0]) ?_ 1 _ rfl; (with_reducible repeat (first | refine blk_drewN ?_ _ | refine blk_drew ?_ | refine blk_alloc ?_ _)); refine blk_put (cs := #[.slice none 0 0, .int .i64 0]) ?_ 0 _ rfl; (with_reducible repeat (first | refine blk_drewN ?_ _ | refine blk_drew ?_ | refine blk_alloc ?_ _)); exact BK125.out) hb); have n7_ := Aside0.mk (below_step (qba9_) hb); clear HO109; clear HO116; clear HO122; clear BK101; clear BK111; clear BK119; clear BK125; clear HB; have HO109 := n0_; have HO116 := n1_; have HO122 := n2_; have BK101 := n3_; have BK111 := n4_; have BK119 := n5_; have BK125 := n6_; have HB := n7_; clear n0_ n1_ n2_ n3_ n4_ n5_ n6_ n7_; (try clear hb); (try clear hk); have hcz74_0 : w73.cell? ⟨gb119, 0, none⟩ = some (.slice Ao60 t114.length co60) := (blk_cell BK119.out 0).trans rfl; have hcz74_1 : w73.cell? ⟨gb119, 1, none⟩ = some (.int .i64 t117) := (blk_cell BK119.out 1).trans rfl; have hfz74_0 := blk_frozen BK119.out 0; have hfz74_1 := blk_frozen BK119.out 1; have hcz75_0 : w73.cell? ⟨gb125, 0, none⟩ = some (.slice Ao67 t120.length co67) := (blk_cell BK125.out 0).trans rfl; have hcz75_1 : w73.cell? ⟨gb125, 1, none⟩ = some (.int .i64 t123) := (blk_cell BK125.out 1).trans rfl; have hfz75_0 := blk_frozen BK125.out 0; have hfz75_1 := blk_frozen BK125.out 1) | (go_at_call 25; (with_reducible refine (grommetref12_Same.calls k _ _ t114 t117 _ _ t120 t123 false _ ?side1 ?side2 ?side3 ?side4 (hG.below (qba0_)) A17.out).mono ?_); (case side1 => repeat (first | exact (Kd.S_reads' HO116.out).2.2 | (with_reducible refine Kd.C_alloc ?_ _) | (with_reducible refine Kd.C_drewN ?_ _) | (with_reducible refine Kd.C_drew ?_))); (case side2 => exact (Kd.S_reads' HO116.out).2.1); (case side3 => repeat (first | exact (Kd.S_reads' HO122.out).2.2 | (with_reducible refine Kd.C_alloc ?_ _) | (with_reducible refine Kd.C_drewN ?_ _) | (with_reducible refine Kd.C_drew ?_))); (case side4 => exact (Kd.S_reads' HO122.out).2.1); rintro e w76 ⟨rfl, hb⟩; have n0_ := Aside0.mk (Kd.R_below (qba11_) hb); have n1_ := Aside0.mk (Kd.S_below (qba18_) hb); have n2_ := Aside0.mk (Kd.S_below (qba19_) hb); have n3_ := Aside0.mk (blk_below (g := gb101) (o := .cells #[.slice A0_0 l0_0.length c0_0, .int .i64 a0_1] 24 (0, 0)) (qba1_) hb); have n4_ := Aside0.mk (blk_below (g := gb111) (o := .cells #[.int .i64 t104, .string t105, .string t106, .slice Ao57 t107.length co57] 29 (0, 0)) (qba8_) hb); have n5_ := Aside0.mk (blk_below (g := gb119) (o := .cells #[.slice Ao60 t114.length co60, .int .i64 t117] 24 (0, 0)) (qba12_) hb); have n6_ := Aside0.mk (blk_below (g := gb125) (o := .cells #[.slice Ao67 t120.length co67, .int .i64 t123] 24 (0, 0)) (qba38_) hb); have n7_ := Aside0.mk (below_step (qba9_) hb); clear HO109; clear HO116; clear HO122; clear BK101; clear BK111; clear BK119; clear BK125; clear HB; have HO109 := n0_; have HO116 := n1_; have HO122 := n2_; have BK101 := n3_; have BK111 := n4_; have BK119 := n5_; have BK125 := n6_; have HB := n7_; clear n0_ n1_ n2_ n3_ n4_ n5_ n6_ n7_; (try clear hb); (try clear hk)))
  go_ret
  exact ⟨qba20_, qba9_⟩
 subst c18
 have H1 : ((grommetlaw14_alive.f).bind fun t128 => (some t128)) = some r := by rw [if_pos rfl] at H; exact H
 clear H
 have H := H1
 clear H1
 replace H := Option.bind_eq_some_iff.mp H
 obtain ⟨t128, A190, H⟩ := H
 replace H : (some t128) = some r := H
 have A19 := Aside0.mk A190
 clear A190
 obtain rfl := Option.some.inj H
 go_enter Tryz.func7, Tryz.ntmps7
 go_wp2_with (first | ((with_reducible refine gate_dst (N := 1) rfl ?_); refine box_event ?hg (N := 1) ?hd (cs := #[.slice A0_0 l0_0.length c0_0, .int .i64 a0_1]) (t := 24) ?hr ?_; (case hd => rfl); (case hg => rfl); (case hr => first | (go_simp; done) | (go_simp; rfl)); intro gb101 hg w20 hbox hb; have n0_ := Aside0.mk (below_step (qba10_) hb); have n1_ := Aside0.mk (hbox); have n2_ := Aside0.mk ((by rw [hg]; exact (below_size (qba10_)) : w.heap.size ≤ gb101)); have n3_ := Aside0.mk ((by rw [hg]; exact (below_size (qba10_)) : w.heap.size ≤ gb101)); clear HB; have HB := n0_; have BK101 := n1_; have GW101 := n2_; have GE101 := n3_; clear n0_ n1_ n2_ n3_; clear hb hbox hg; have hcz21_0 : w20.cell? ⟨gb101, 0, none⟩ = some (.slice A0_0 l0_0.length c0_0) := (blk_cell BK101.out 0).trans rfl; have hcz21_1 : w20.cell? ⟨gb101, 1, none⟩ = some (.int .i64 a0_1) := (blk_cell BK101.out 1).trans rfl; have hfz21_0 := blk_frozen BK101.out 0; have hfz21_1 := blk_frozen BK101.out 1) | ((with_reducible refine gate_callee (f := 9) rfl ?_); refine goesL_ (some 10) rfl rfl Tryz.func9 (by kernel_rfl) rfl #[.agg #[.slice A0_0 l0_0.length c0_0, .int .i64 a0_1]] rfl (qba6_) ?_; (with_reducible refine (grommetlaw14_large.calls k _ _ l0_0 a0_1 false _ ?side1 ?side2 (hG.below (qba0_)) A2.out).mono ?_); (case side1 => exact qba39_); (case side2 => exact HC0_0.out); rintro e w22 ⟨rfl, hb⟩; refine ⟨_, rfl, ?_⟩; have n0_ := Aside0.mk (blk_below (g := gb101) (o := .cells #[.slice A0_0 l0_0.length c0_0, .int .i64 a0_1] 24 (0, 0)) (qba1_) hb); have n1_ := Aside0.mk (below_step (qba2_) hb); clear BK101; clear HB; have BK101 := n0_; have HB := n1_; clear n0_ n1_; (try clear hb); (try clear hk); have hcz23_0 : w22.cell? ⟨gb101, 0, none⟩ = some (.slice A0_0 l0_0.length c0_0) := (blk_cell BK101.out 0).trans rfl; have hcz23_1 : w22.cell? ⟨gb101, 1, none⟩ = some (.int .i64 a0_1) := (blk_cell BK101.out 1).trans rfl; have hfz23_0 := blk_frozen BK101.out 0; have hfz23_1 := blk_frozen BK101.out 1) | ((with_reducible refine gate_callee (f := 11) rfl ?_); refine goesL_ (some 14) rfl rfl Tryz.func11 (by kernel_rfl) rfl #[.agg #[.slice A0_0 l0_0.length c0_0, .int .i64 a0_1]] rfl (qba6_) ?_; (with_reducible refine (lay_Tree.calls _ _ l0_0 a0_1 t104 t105 t106 t107 t110 _ ?side1 ?side2 (hG.below (qba0_)) A9.out).mono ?_); (case side1 => exact qba39_); (case side2 => exact HC0_0.out); rintro e w24 ⟨v108, rfl, ho0, hb⟩; refine ⟨_, rfl, ?_⟩; have n0_ := Aside0.mk (Kd.R_lower ho0 (below_size (qba2_))); have n1_ := Aside0.mk (blk_below (g := gb101) (o := .cells #[.slice A0_0 l0_0.length c0_0, .int .i64 a0_1] 24 (0, 0)) (qba1_) hb); have n2_ := Aside0.mk (below_step (qba2_) hb); clear BK101; clear HB; have HO109 := n0_; have BK101 := n1_; have HB := n2_; clear n0_ n1_ n2_; (try clear hb); (try clear hk); (try clear ho0)) | ((with_reducible refine gate_dst (N := 3) rfl ?_); refine box_event ?hg (N := 3) ?hd (cs := #[.int .i64 0, .string (⟨#[]⟩ : ByteArray), .string (⟨#[]⟩ : ByteArray), .slice none 0 0]) (t := 29) ?hr ?_; (case hd => rfl); (case hg => rfl); (case hr => first | (go_simp; done) | (go_simp; rfl)); intro gb111 hg w25 hbox hb; have n0_ := Aside0.mk (Kd.R_below (Kd.R_elderB (qba11_) gb111 (Nat.le_of_eq hg.symm)) hb); have n1_ := Aside0.mk (blk_below (g := gb101) (o := .cells #[.slice A0_0 l0_0.length c0_0, .int .i64 a0_1] 24 (0, 0)) (qba1_) hb); have n2_ := Aside0.mk (below_step (qba2_) hb); have n3_ := Aside0.mk (hbox); have n4_ := Aside0.mk ((by rw [hg]; exact (below_size (qba2_)) : w.heap.size ≤ gb111)); have n5_ := Aside0.mk ((by rw [hg]; exact (below_size (qba2_)) : w.heap.size ≤ gb111)); have n6_ := Aside0.mk ((by rw [hg]; exact Nat.ne_of_lt (blk_lt (g := gb101) (o := .cells #[.slice A0_0 l0_0.length c0_0, .int .i64 a0_1] 24 (0, 0)) (qba1_)) : gb101 ≠ gb111)); have n7_ := Aside0.mk ((by rw [hg]; exact Nat.ne_of_gt (blk_lt (g := gb101) (o := .cells #[.slice A0_0 l0_0.length c0_0, .int .i64 a0_1] 24 (0, 0)) (qba1_)) : gb111 ≠ gb101)); clear HO109; clear BK101; clear HB; have HO109 := n0_; have BK101 := n1_; have HB := n2_; have BK111 := n3_; have GW111 := n4_; have GE111 := n5_; have NB101_111 := n6_; have NB111_101 := n7_; clear n0_ n1_ n2_ n3_ n4_ n5_ n6_ n7_; clear hb hbox hg; have hnb26 := NB111_101.out; have hnc26 := NB101_111.out; have hcz27_0 : w25.cell? ⟨gb111, 0, none⟩ = some (.int .i64 0) := (blk_cell BK111.out 0).trans rfl; have hcz27_1 : w25.cell? ⟨gb111, 1, none⟩ = some (.string (⟨#[]⟩ : ByteArray)) := (blk_cell BK111.out 1).trans rfl; have hcz27_2 : w25.cell? ⟨gb111, 2, none⟩ = some (.string (⟨#[]⟩ : ByteArray)) := (blk_cell BK111.out 2).trans rfl; have hcz27_3 : w25.cell? ⟨gb111, 3, none⟩ = some (.slice none 0 0) := (blk_cell BK111.out 3).trans rfl; have hfz27_0 := blk_frozen BK111.out 0; have hfz27_1 := blk_frozen BK111.out 1; have hfz27_2 := blk_frozen BK111.out 2; have hfz27_3 := blk_frozen BK111.out 3; obtain ⟨Ao28, co28, eo28⟩ := Kd.R_slice HO109.out; subst eo28) | ((with_reducible refine gate_callee (f := 22) rfl ?_); refine goesL_ (some 27) rfl rfl Tryz.func22 (by kernel_rfl) rfl #[.agg #[.int .i64 t104, .string t105, .string t106, .slice Ao28 t107.length co28]] rfl (qba6_) ?_; (with_reducible refine (graph_Compose.calls t104 t105 t106 _ _ t107 t114 t117 t118 _ ?side1 ?side2 (hG.below (qba0_)) A11.out).mono ?_); (case side1 => refine (Kd.R_reads' (e := 29) (base := w.heap.size) (ok := fun k_ => (True ∧ k_ ≠ gb111)) (n := t107.length) (c := co28) ?_).2.2; exact (qba27_)); (case side2 => exact qba40_); rintro e w29 ⟨v115, rfl, ho0, hb⟩; refine ⟨_, rfl, ?_⟩; have n0_ := Aside0.mk (Kd.R_below (qba27_) hb); have n1_ := Aside0.mk (Kd.S_lower ho0 (below_size (qba5_))); have n2_ := Aside0.mk (blk_below (g := gb101) (o := .cells #[.slice A0_0 l0_0.length c0_0, .int .i64 a0_1] 24 (0, 0)) (qba7_) hb); have n3_ := Aside0.mk (blk_below (g := gb111) (o := .cells #[.int .i64 t104, .string t105, .string t106, .slice Ao28 t107.length co28] 29 (0, 0)) (qba4_) hb); have n4_ := Aside0.mk (below_step (qba5_) hb); clear HO109; clear BK101; clear BK111; clear HB; have HO109 := n0_; have HO116 := n1_; have BK101 := n2_; have BK111 := n3_; have HB := n4_; clear n0_ n1_ n2_ n3_ n4_; (try clear hb); (try clear hk); (try clear ho0)) | ((with_reducible refine gate_dst (N := 5) rfl ?_); refine box_event ?hg (N := 5) ?hd (cs := #[.slice none 0 0, .int .i64 0]) (t := 24) ?hr ?_; (case hd => rfl); (case hg => rfl); (case hr => first | (go_simp; done) | (go_simp; rfl)); intro gb119 hg w30 hbox hb; have n0_ := Aside0.mk (Kd.R_below (qba11_) hb); have n1_ := Aside0.mk (Kd.S_below (qba18_) hb); have n2_ := Aside0.mk (blk_below (g := gb101) (o := .cells #[.slice A0_0 l0_0.length c0_0, .int .i64 a0_1] 24 (0, 0)) (qba1_) hb); have n3_ := Aside0.mk (blk_below (g := gb111) (o := .cells #[.int .i64 t104, .string t105, .string t106, .slice Ao28 t107.length co28] 29 (0, 0)) (qba8_) hb); have n4_ := Aside0.mk (below_step (qba5_) hb); have n5_ := Aside0.mk (hbox); have n6_ := Aside0.mk ((by rw [hg]; exact (below_size (qba5_)) : w.heap.size ≤ gb119)); have n7_ := Aside0.mk ((by rw [hg]; exact (below_size (qba5_)) : w.heap.size ≤ gb119)); have n8_ := Aside0.mk ((by rw [hg]; exact Nat.ne_of_lt (blk_lt (g := gb101) (o := .cells #[.slice A0_0 l0_0.length c0_0, .int .i64 a0_1] 24 (0, 0)) (qba1_)) : gb101 ≠ gb119)); have n9_ := Aside0.mk ((by rw [hg]; exact Nat.ne_of_gt (blk_lt (g := gb101) (o := .cells #[.slice A0_0 l0_0.length c0_0, .int .i64 a0_1] 24 (0, 0)) (qba1_)) : gb119 ≠ gb101)); have n10_ := Aside0.mk ((by rw [hg]; exact Nat.ne_of_lt (blk_lt (g := gb111) (o := .cells #[.int .i64 t104, .string t105, .string t106, .slice Ao28 t107.length co28] 29 (0, 0)) (qba8_)) : gb111 ≠ gb119)); have n11_ := Aside0.mk ((by rw [hg]; exact Nat.ne_of_gt (blk_lt (g := gb111) (o := .cells #[.int .i64 t104, .string t105, .string t106, .slice Ao28 t107.length co28] 29 (0, 0)) (qba8_)) : gb119 ≠ gb111)); clear HO109; clear HO116; clear BK101; clear BK111; clear HB; have HO109 := n0_; have HO116 := n1_; have BK101 := n2_; have BK111 := n3_; have HB := n4_; have BK119 := n5_; have GW119 := n6_; have GE119 := n7_; have NB101_119 := n8_; have NB119_101 := n9_; have NB111_119 := n10_; have NB119_111 := n11_; clear n0_ n1_ n2_ n3_ n4_ n5_ n6_ n7_ n8_ n9_ n10_ n11_; clear hb hbox hg; obtain ⟨Ao31, co31, eo31⟩ := Kd.S_slice HO116.out; subst eo31; have hnb32 := NB119_101.out; have hnc32 := NB101_119.out; have hnb33 := NB119_111.out; have hnc33 := NB111_119.out; have hcz34_0 : w30.cell? ⟨gb119, 0, none⟩ = some (.slice none 0 0) := (blk_cell BK119.out 0).trans rfl; have hcz34_1 : w30.cell? ⟨gb119, 1, none⟩ = some (.int .i64 0) := (blk_cell BK119.out 1).trans rfl; have hfz34_0 := blk_frozen BK119.out 0; have hfz34_1 := blk_frozen BK119.out 1; have hcz35_0 : w30.cell? ⟨gb101, 0, none⟩ = some (.slice A0_0 l0_0.length c0_0) := (blk_cell BK101.out 0).trans rfl; have hcz35_1 : w30.cell? ⟨gb101, 1, none⟩ = some (.int .i64 a0_1) := (blk_cell BK101.out 1).trans rfl; have hfz35_0 := blk_frozen BK101.out 0; have hfz35_1 := blk_frozen BK101.out 1) | ((with_reducible refine gate_callee (f := 23) rfl ?_); refine goesL_ (some 32) rfl rfl Tryz.func23 (by kernel_rfl) rfl #[.agg #[.slice A0_0 l0_0.length c0_0, .int .i64 a0_1]] rfl (qba6_) ?_; (with_reducible refine (graph_Canon.calls _ _ l0_0 a0_1 t120 t123 t124 _ ?side1 ?side2 (hG.below (qba0_)) A12.out).mono ?_); (case side1 => exact Kd.C_below HR0_0.out (qba3_)); (case side2 => exact HC0_0.out); rintro e w36 ⟨v121, rfl, ho0, hb⟩; refine ⟨_, rfl, ?_⟩; have n0_ := Aside0.mk (Kd.R_below (by (with_reducible repeat (first | apply Kd.R_alloc | apply Kd.R_drewN | apply Kd.R_drew)); exact (Kd.R_mono (Kd.R_far (p := ⟨gb119, 1, none⟩) (Kd.R_far (p := ⟨gb119, 0, none⟩) (Kd.R_types HO109.out BK119.out (by decide)) (fun _ hk => hk.2) (.slice Ao31 t114.length co31)) (fun _ hk => hk.2) (.int .i64 t117)) (fun _ h_ => h_.1))) hb); have n1_ := Aside0.mk (Kd.S_elder' (qba34_) (Kd.S_base ho0) hb); have n2_ := Aside0.mk (Kd.S_lower (Kd.S_new' ho0 (Kd.S_lt (qba34_))) (below_size (qba3_))); have n3_ := Aside0.mk (blk_below (g := gb101) (o := .cells #[.slice A0_0 l0_0.length c0_0, .int .i64 a0_1] 24 (0, 0)) (qba17_) hb); have n4_ := Aside0.mk (blk_below (g := gb111) (o := .cells #[.int .i64 t104, .string t105, .string t106, .slice Ao28 t107.length co28] 29 (0, 0)) (qba15_) hb); have n5_ := Aside0.mk (blk_below (g := gb119) (o := .cells #[.slice Ao31 t114.length co31, .int .i64 t117] 24 (0, 0)) (by (with_reducible repeat (first | refine blk_drewN ?_ _ | refine blk_drew ?_ | refine blk_alloc ?_ _)); refine blk_put (cs := #[.slice Ao31 t114.length co31, .int .i64 0]) ?_ 1 _ rfl; (with_reducible repeat (first | refine blk_drewN ?_ _ | refine blk_drew ?_ | refine blk_alloc ?_ _)); refine blk_put (cs := #[.slice none 0 0, .int .i64 0]) ?_ 0 _ rfl; (with_reducible repeat (first | refine blk_drewN ?_ _ | refine blk_drew ?_ | refine blk_alloc ?_ _)); exact BK119.out) hb); have n6_ := Aside0.mk (below_step (qba3_) hb); clear HO109; clear HO116; clear BK101; clear BK111; clear BK119; clear HB; have HO109 := n0_; have HO116 := n1_; have HO122 := n2_; have BK101 := n3_; have BK111 := n4_; have BK119 := n5_; have HB := n6_; clear n0_ n1_ n2_ n3_ n4_ n5_ n6_; (try clear hb); (try clear hk); (try clear ho0)) | ((with_reducible refine gate_dst (N := 7) rfl ?_); refine box_event ?hg (N := 7) ?hd (cs := #[.slice none 0 0, .int .i64 0]) (t := 24) ?hr ?_; (case hd => rfl); (case hg => rfl); (case hr => first | (go_simp; done) | (go_simp; rfl)); intro gb125 hg w37 hbox hb; have n0_ := Aside0.mk (Kd.R_below (qba11_) hb); have n1_ := Aside0.mk (Kd.S_below (qba18_) hb); have n2_ := Aside0.mk (Kd.S_below (qba19_) hb); have n3_ := Aside0.mk (blk_below (g := gb101) (o := .cells #[.slice A0_0 l0_0.length c0_0, .int .i64 a0_1] 24 (0, 0)) (qba1_) hb); have n4_ := Aside0.mk (blk_below (g := gb111) (o := .cells #[.int .i64 t104, .string t105, .string t106, .slice Ao28 t107.length co28] 29 (0, 0)) (qba8_) hb); have n5_ := Aside0.mk (blk_below (g := gb119) (o := .cells #[.slice Ao31 t114.length co31, .int .i64 t117] 24 (0, 0)) (qba12_) hb); have n6_ := Aside0.mk (below_step (qba3_) hb); have n7_ := Aside0.mk (hbox); have n8_ := Aside0.mk ((by rw [hg]; exact (below_size (qba3_)) : w.heap.size ≤ gb125)); have n9_ := Aside0.mk ((by rw [hg]; exact (below_size (qba3_)) : w.heap.size ≤ gb125)); have n10_ := Aside0.mk ((by rw [hg]; exact Nat.ne_of_lt (blk_lt (g := gb101) (o := .cells #[.slice A0_0 l0_0.length c0_0, .int .i64 a0_1] 24 (0, 0)) (qba1_)) : gb101 ≠ gb125)); have n11_ := Aside0.mk ((by rw [hg]; exact Nat.ne_of_gt (blk_lt (g := gb101) (o := .cells #[.slice A0_0 l0_0.length c0_0, .int .i64 a0_1] 24 (0, 0)) (qba1_)) : gb125 ≠ gb101)); have n12_ := Aside0.mk ((by rw [hg]; exact Nat.ne_of_lt (blk_lt (g := gb111) (o := .cells #[.int .i64 t104, .string t105, .string t106, .slice Ao28 t107.length co28] 29 (0, 0)) (qba8_)) : gb111 ≠ gb125)); have n13_ := Aside0.mk ((by rw [hg]; exact Nat.ne_of_gt (blk_lt (g := gb111) (o := .cells #[.int .i64 t104, .string t105, .string t106, .slice Ao28 t107.length co28] 29 (0, 0)) (qba8_)) : gb125 ≠ gb111)); have n14_ := Aside0.mk ((by rw [hg]; exact Nat.ne_of_lt (blk_lt (g := gb119) (o := .cells #[.slice Ao31 t114.length co31, .int .i64 t117] 24 (0, 0)) (qba12_)) : gb119 ≠ gb125)); have n15_ := Aside0.mk ((by rw [hg]; exact Nat.ne_of_gt (blk_lt (g := gb119) (o := .cells #[.slice Ao31 t114.length co31, .int .i64 t117] 24 (0, 0)) (qba12_)) : gb125 ≠ gb119)); clear HO109; clear HO116; clear HO122; clear BK101; clear BK111; clear BK119; clear HB; have HO109 := n0_; have HO116 := n1_; have HO122 := n2_; have BK101 := n3_; have BK111 := n4_; have BK119 := n5_; have HB := n6_; have BK125 := n7_; have GW125 := n8_; have GE125 := n9_; have NB101_125 := n10_; have NB125_101 := n11_; have NB111_125 := n12_; have NB125_111 := n13_; have NB119_125 := n14_; have NB125_119 := n15_; clear n0_ n1_ n2_ n3_ n4_ n5_ n6_ n7_ n8_ n9_ n10_ n11_ n12_ n13_ n14_ n15_; clear hb hbox hg; obtain ⟨Ao38, co38, eo38⟩ := Kd.S_slice HO122.out; subst eo38; have hnb39 := NB125_101.out; have hnc39 := NB101_125.out; have hnb40 := NB125_111.out; have hnc40 := NB111_125.out; have hnb41 := NB125_119.out; have hnc41 := NB119_125.out; have hcz42_0 : w37.cell? ⟨gb125, 0, none⟩ = some (.slice none 0 0) := (blk_cell BK125.out 0).trans rfl; have hcz42_1 : w37.cell? ⟨gb125, 1, none⟩ = some (.int .i64 0) := (blk_cell BK125.out 1).trans rfl; have hfz42_0 := blk_frozen BK125.out 0; have hfz42_1 := blk_frozen BK125.out 1; have hcz43_0 : w37.cell? ⟨gb111, 0, none⟩ = some (.int .i64 t104) := (blk_cell BK111.out 0).trans rfl; have hcz43_1 : w37.cell? ⟨gb111, 1, none⟩ = some (.string t105) := (blk_cell BK111.out 1).trans rfl; have hcz43_2 : w37.cell? ⟨gb111, 2, none⟩ = some (.string t106) := (blk_cell BK111.out 2).trans rfl; have hcz43_3 : w37.cell? ⟨gb111, 3, none⟩ = some (.slice Ao28 t107.length co28) := (blk_cell BK111.out 3).trans rfl; have hfz43_0 := blk_frozen BK111.out 0; have hfz43_1 := blk_frozen BK111.out 1; have hfz43_2 := blk_frozen BK111.out 2; have hfz43_3 := blk_frozen BK111.out 3) | ((with_reducible refine gate_callee (f := 24) rfl ?_); refine goesL_ (some 36) rfl rfl Tryz.func24 (by kernel_rfl) rfl #[.agg #[.int .i64 t104, .string t105, .string t106, .slice Ao28 t107.length co28]] rfl (qba6_) ?_; (with_reducible refine (flow_Right.calls t104 t105 t106 _ _ t107 true _ ?side1 ?side2 (hG.below (qba0_)) A13.out).mono ?_); (case side1 => refine (Kd.R_reads' (e := 29) (base := w.heap.size) (ok := fun k_ => (True ∧ k_ ≠ gb111)) (n := t107.length) (c := co28) ?_).2.2; exact (qba37_)); (case side2 => exact qba40_); rintro e w44 ⟨rfl, hb⟩; refine ⟨_, rfl, ?_⟩; have n0_ := Aside0.mk (Kd.R_below (qba37_) hb); have n1_ := Aside0.mk (Kd.S_below (by (with_reducible repeat (first | apply Kd.S_alloc | apply Kd.S_drewN | apply Kd.S_drew)); exact (Kd.S_mono (Kd.S_far (p := ⟨gb125, 1, none⟩) (Kd.S_far (p := ⟨gb125, 0, none⟩) (Kd.S_types HO116.out BK125.out (by decide)) (fun _ hk => hk.2) (.slice Ao38 t120.length co38)) (fun _ hk => hk.2) (.int .i64 t123)) (fun _ h_ => h_.1))) hb); have n2_ := Aside0.mk (Kd.S_below (by (with_reducible repeat (first | apply Kd.S_alloc | apply Kd.S_drewN | apply Kd.S_drew)); exact (Kd.S_mono (Kd.S_far (p := ⟨gb125, 1, none⟩) (Kd.S_far (p := ⟨gb125, 0, none⟩) (Kd.S_types HO122.out BK125.out (by decide)) (fun _ hk => hk.2) (.slice Ao38 t120.length co38)) (fun _ hk => hk.2) (.int .i64 t123)) (fun _ h_ => h_.1))) hb); have n3_ := Aside0.mk (blk_below (g := gb101) (o := .cells #[.slice A0_0 l0_0.length c0_0, .int .i64 a0_1] 24 (0, 0)) (qba16_) hb); have n4_ := Aside0.mk (blk_below (g := gb111) (o := .cells #[.int .i64 t104, .string t105, .string t106, .slice Ao28 t107.length co28] 29 (0, 0)) (qba14_) hb); have n5_ := Aside0.mk (blk_below (g := gb119) (o := .cells #[.slice Ao31 t114.length co31, .int .i64 t117] 24 (0, 0)) (qba13_) hb); have n6_ := Aside0.mk (blk_below (g := gb125) (o := .cells #[.slice Ao38 t120.length co38, .int .i64 t123] 24 (0, 0)) (by (with_reducible repeat (first | refine blk_drewN ?_ _ | refine blk_drew ?_ | refine blk_alloc ?_ _)); refine blk_put (cs := #[.slice Ao38 t120.length co38, .int .i64 0]) ?_ 1 _ rfl; (with_reducible repeat (first | refine blk_drewN ?_ _ | refine blk_drew ?_ | refine blk_alloc ?_ _)); refine blk_put (cs := #[.slice none 0 0, .int .i64 0]) ?_ 0 _ rfl; (with_reducible repeat (first | refine blk_drewN ?_ _ | refine blk_drew ?_ | refine blk_alloc ?_ _)); exact BK125.out) hb); have n7_ := Aside0.mk (below_step (qba9_) hb); clear HO109; clear HO116; clear HO122; clear BK101; clear BK111; clear BK119; clear BK125; clear HB; have HO109 := n0_; have HO116 := n1_; have HO122 := n2_; have BK101 := n3_; have BK111 := n4_; have BK119 := n5_; have BK125 := n6_; have HB := n7_; clear n0_ n1_ n2_ n3_ n4_ n5_ n6_ n7_; (try clear hb); (try clear hk); have hcz45_0 : w44.cell? ⟨gb119, 0, none⟩ = some (.slice Ao31 t114.length co31) := (blk_cell BK119.out 0).trans rfl; have hcz45_1 : w44.cell? ⟨gb119, 1, none⟩ = some (.int .i64 t117) := (blk_cell BK119.out 1).trans rfl; have hfz45_0 := blk_frozen BK119.out 0; have hfz45_1 := blk_frozen BK119.out 1; have hcz46_0 : w44.cell? ⟨gb125, 0, none⟩ = some (.slice Ao38 t120.length co38) := (blk_cell BK125.out 0).trans rfl; have hcz46_1 : w44.cell? ⟨gb125, 1, none⟩ = some (.int .i64 t123) := (blk_cell BK125.out 1).trans rfl; have hfz46_0 := blk_frozen BK125.out 0; have hfz46_1 := blk_frozen BK125.out 1) | (go_at_call 25; (with_reducible refine (grommetref12_Same.calls k _ _ t114 t117 _ _ t120 t123 true _ ?side1 ?side2 ?side3 ?side4 (hG.below (qba0_)) A17.out).mono ?_); (case side1 => repeat (first | exact (Kd.S_reads' HO116.out).2.2 | (with_reducible refine Kd.C_alloc ?_ _) | (with_reducible refine Kd.C_drewN ?_ _) | (with_reducible refine Kd.C_drew ?_))); (case side2 => exact (Kd.S_reads' HO116.out).2.1); (case side3 => repeat (first | exact (Kd.S_reads' HO122.out).2.2 | (with_reducible refine Kd.C_alloc ?_ _) | (with_reducible refine Kd.C_drewN ?_ _) | (with_reducible refine Kd.C_drew ?_))); (case side4 => exact (Kd.S_reads' HO122.out).2.1); rintro e w47 ⟨rfl, hb⟩; have n0_ := Aside0.mk (Kd.R_below (qba11_) hb); have n1_ := Aside0.mk (Kd.S_below (qba18_) hb); have n2_ := Aside0.mk (Kd.S_below (qba19_) hb); have n3_ := Aside0.mk (blk_below (g := gb101) (o := .cells #[.slice A0_0 l0_0.length c0_0, .int .i64 a0_1] 24 (0, 0)) (qba1_) hb); have n4_ := Aside0.mk (blk_below (g := gb111) (o := .cells #[.int .i64 t104, .string t105, .string t106, .slice Ao28 t107.length co28] 29 (0, 0)) (qba8_) hb); have n5_ := Aside0.mk (blk_below (g := gb119) (o := .cells #[.slice Ao31 t114.length co31, .int .i64 t117] 24 (0, 0)) (qba12_) hb); have n6_ := Aside0.mk (blk_below (g := gb125) (o := .cells #[.slice Ao38 t120.length co38, .int .i64 t123] 24 (0, 0)) (qba38_) hb); have n7_ := Aside0.mk (below_step (qba9_) hb); clear HO109; clear HO116; clear HO122; clear BK101; clear BK111; clear BK119; clear BK125; clear HB; have HO109 := n0_; have HO116 := n1_; have HO122 := n2_; have BK101 := n3_; have BK111 := n4_; have BK119 := n5_; have BK125 := n6_; have HB := n7_; clear n0_ n1_ n2_ n3_ n4_ n5_ n6_ n7_; (try clear hb); (try clear hk)) | (go_at_call 10; (with_reducible refine (grommetlaw14_alive.calls  t128 _ (hG.below (qba0_)) A19.out).mono ?_); rintro e w48 ⟨rfl, hb⟩; have n0_ := Aside0.mk (Kd.R_below (qba11_) hb); have n1_ := Aside0.mk (Kd.S_below (qba18_) hb); have n2_ := Aside0.mk (Kd.S_below (qba19_) hb); have n3_ := Aside0.mk (blk_below (g := gb101) (o := .cells #[.slice A0_0 l0_0.length c0_0, .int .i64 a0_1] 24 (0, 0)) (qba1_) hb); have n4_ := Aside0.mk (blk_below (g := gb111) (o := .cells #[.int .i64 t104, .string t105, .string t106, .slice Ao28 t107.length co28] 29 (0, 0)) (qba8_) hb); have n5_ := Aside0.mk (blk_below (g := gb119) (o := .cells #[.slice Ao31 t114.length co31, .int .i64 t117] 24 (0, 0)) (qba12_) hb); have n6_ := Aside0.mk (blk_below (g := gb125) (o := .cells #[.slice Ao38 t120.length co38, .int .i64 t123] 24 (0, 0)) (qba38_) hb); have n7_ := Aside0.mk (below_step (qba9_) hb); clear HO109; clear HO116; clear HO122; clear BK101; clear BK111; clear BK119; clear BK125; clear HB; have HO109 := n0_; have HO116 := n1_; have HO122 := n2_; have BK101 := n3_; have BK111 := n4_; have BK119 := n5_; have BK125 := n6_; have HB := n7_; clear n0_ n1_ n2_ n3_ n4_ n5_ n6_ n7_; (try clear hb); (try clear hk)))
 go_ret
 exact ⟨qba20_, qba9_⟩
end Go.Proofs.YtnjcpoojgmpmeaaGreatDoor.PX
namespace Go.Proofs.YtnjcpoojgmpmeaaGreatDoor.Pure
open RowKit YtnjcpoojgmpmeaaGreatDoor.PX YtnjcpoojgmpmeaaGreatDoor.Plug YtnjcpoojgmpmeaaGreatDoor.Graphs YtnjcpoojgmpmeaaGreatDoorW.PrintWords YtnjcpoojgmpmeaaGreatDoorW.PrintLast
set_option maxRecDepth 100000
theorem alive14 : grommetlaw14_alive.f = some true := by kernel_rfl
theorem same_none (k : Nat) : grommetref09_Same.f (k + 3) noTr.f0 noTr.f1 noTr.f2 noTr.f3 0 (⟨#[]⟩ : ByteArray) (⟨#[]⟩ : ByteArray) [] = some true := by
 unfold noTr
 dsimp only
 rw [grommetref09_Same.f, if_pos rfl, if_pos rfl, if_pos rfl, grommetref09_Same.j0]
 rw [if_neg (by decide), grommetref09_Same.l0, if_neg (by decide)]
theorem sizes14 (l : List S45) (h : Opened.bulkL Opened.bulkNode l ≤ 1048576) : sizesB l = true := by
 obtain ⟨h1, h2⟩ := Opened.nodes_bulk l
 refine List.all_eq_true.2 fun m hm => ?_
 have := h1 m hm
 rw [decide_eq_true (by omega), decide_eq_true (by omega)]; rfl
theorem large14_l0 (l : List Nd) (root : Int) (ns : List Nd) (hn : ns.length ≤ 200) : ∀ (d i K : Nat) (x3 : Int), ns.length = i + d → d + 1 ≤ K → ∃ b, grommetlaw14_large.l0 K x3 ns (ns.length : Int) (i : Int) l root = some b
 | 0, i, K, x3, hi, hK => by
  obtain ⟨K, rfl⟩ : ∃ k, K = k + 1 := ⟨K - 1, by omega⟩
  rw [grommetlaw14_large.l0, if_neg (by omega)]
  split
  ·
   split
   · exact ⟨_, rfl⟩
   · exact ⟨_, rfl⟩
  · exact ⟨_, rfl⟩
 | d + 1, i, K, x3, hi, hK => by
  obtain ⟨K, rfl⟩ : ∃ k, K = k + 1 := ⟨K - 1, by omega⟩
  have e2 : wrap64 ((i : Int) + 1) = ((i + 1 : Nat) : Int) := by unfold wrap64; omega
  rw [grommetlaw14_large.l0, if_pos (by omega), if_pos (by omega), if_pos (by omega), e2]
  exact large14_l0 l root ns hn d (i + 1) K _ (by omega) (by omega)
theorem large14 (l : List Nd) (root : Int) (K : Nat) (hK : 201 ≤ K) : ∃ b, grommetlaw14_large.f K l root = some b := by
 have h : (mn (l.length : Int) 200).toNat ≤ 200 ∧ 0 ≤ mn (l.length : Int) 200 ∧ mn (l.length : Int) 200 ≤ (l.length : Int) := by unfold mn; split <;> omega
 unfold grommetlaw14_large.f
 rw [if_pos h.2.1, if_pos h.2.2, Option.bind_some]
 have hl : (l.take (mn (l.length : Int) 200).toNat).length ≤ 200 := by rw [List.length_take]; omega
 rw [show (0 : Int) = ((0 : Nat) : Int) from rfl]
 exact large14_l0 l root _ hl _ 0 K _ (Nat.zero_add _).symm (by omega)
end Go.Proofs.YtnjcpoojgmpmeaaGreatDoor.Pure
namespace Go.Proofs.YtnjcpoojgmpmeaaGreatDoor.Plug
open Go.Maps RowKit YtnjcpoojgmpmeaaGreatDoor YtnjcpoojgmpmeaaGreatDoor.PX YtnjcpoojgmpmeaaGreatDoor.Utf YtnjcpoojgmpmeaaGreatDoor.Mapk YtnjcpoojgmpmeaaGreatDoor.Graphs YtnjcpoojgmpmeaaGreatDoorW.PrintWords YtnjcpoojgmpmeaaGreatDoorW.PrintLast YtnjcpoojgmpmeaaGreatDoorW.PrintMore
set_option linter.unusedVariables false
set_option linter.unusedSimpArgs false
def cntK (l : List Nd) (xs : List Int) (k : Int) : Nat := (xs.map fun a => (rd_T45 l a).f2.count k).sum
theorem cntK_append (l : List Nd) (a b : List Int) (k : Int) : cntK l (a ++ b) k = cntK l a k + cntK l b k := by simp [cntK]
mutual
def LayP (l : List Nd) (an : Int → ByteArray) (U : Int → Nat) : Tr → Int → List Int → List Int → Int → Prop
 | .mk k x a ts, at_, L, ext, deep =>
  (at_ ∈ L ∧ 2 ≤ U at_ ∧ ext = [] ∧ k = 7 ∧ x = ⟨#[]⟩ ∧ a = an at_ ∧ ts = []) ∨
  (at_ ∉ L ∧ (0 ≤ at_ ∧ at_ < (l.length : Int)) ∧ (5 ≤ (rd_T45 l at_).f0 → deep ≠ 64) ∧ k = (rd_T45 l at_).f0 ∧ x = (rd_T45 l at_).f1 ∧ a = an at_ ∧ ∃ e, ext = at_ :: e ∧ LaysP l an U ts (rd_T45 l at_).f2 (L ++ [at_]) e (deep + 1))
def LaysP (l : List Nd) (an : Int → ByteArray) (U : Int → Nat) : List Tr → List Int → List Int → List Int → Int → Prop
 | [], ks, L, ext, deep => ks = [] ∧ ext = []
 | x :: r, ks, L, ext, deep => ∃ k kr e1 e2, ks = k :: kr ∧ ext = e1 ++ e2 ∧ LayP l an U x k L e1 deep ∧ LaysP l an U r kr (L ++ e1) e2 deep
end
theorem why_stay (l : List Nd) (an : Int → ByteArray) (K : Nat) (k deep : Int) (s : LS) (x : Tr) (s' : LS) (h1 : s.2.1 ≠ 0) (h2 : treeO l an K k deep s = some (x, s')) : s'.2.1 ≠ 0 := by
 cases K with
 | zero => simp [treeO] at h2
 | succ K =>
  rw [treeO] at h2
  split at h2
  ·
   have := (Prod.mk.inj (Option.some.inj h2)).2
   rw [← this]; exact h1
  ·
   split at h2
   · cases h2
   ·
    dsimp only at h2
    have hne : (if 5 ≤ (rd_T45 l k).f0 ∧ deep = 64 then (10 : Int) else s.2.1) ≠ 0 := by
     by_cases c : 5 ≤ (rd_T45 l k).f0 ∧ deep = 64
     · rw [if_pos c]; decide
     rw [if_neg c]; exact h1
    rw [if_pos hne] at h2
    have := (Prod.mk.inj (Option.some.inj h2)).2
    rw [← this]; exact hne
theorem why_kids (l : List Nd) (an : Int → ByteArray) (K : Nat) (deep : Int) : ∀ (kids : List Int) (ts : List Tr) (t1 : LS) (p : List Tr × LS), t1.2.1 ≠ 0 → kids.foldlM (fun (p : List Tr × LS) k => (treeO l an K k deep p.2).map fun q => (p.1 ++ [q.1], q.2)) (ts, t1) = some p → p.2.2.1 ≠ 0
 | [], ts, t1, p, h1, h2 => by have := Option.some.inj h2; rw [← this]; exact h1
 | k :: r, ts, t1, p, h1, h2 => by
  rw [List.foldlM_cons] at h2
  obtain ⟨p1, q1, q2⟩ := Option.bind_eq_some_iff.1 h2
  obtain ⟨q, r1, r2⟩ := Option.map_eq_some_iff.1 q1
  subst r2
  exact why_kids l an K deep r _ _ p (why_stay l an K k deep t1 q.1 q.2 h1 r1) q2
theorem lay_some (l : List Nd) (an : Int → ByteArray) (hk : Kin l) : ∀ (K : Nat) (at_ deep : Int) (L : List Int) (t : LS) (x : Tr) (t' : LS), LaS l.length L t → 0 ≤ at_ → at_ < (l.length : Int) → treeO l an K at_ deep t = some (x, t') → t'.2.1 = 0 →
    ∃ ext, LaS l.length (L ++ ext) t' ∧ (∀ (s : WS) (d : Int), GoS l.length s → s.2.1 = L → ∃ s', goO l K at_ d s = some s' ∧ s'.2.1 = L ++ ext ∧ GoS l.length s') ∧ (∀ j ∈ ext, j = at_ ∨ 1 ≤ cntK l ext j) ∧ ∀ (U c : Int → Nat), (∀ k ∈ L, 1 ≤ c k) → (∀ k, c k + (if k = at_ then 1 else 0) + cntK l ext k ≤ U k) → LayP l an U x at_ L ext deep
  | 0, at_, deep, L, t, x, t', hs, _, _, h, _ => by simp [treeO] at h
  | K + 1, at_, deep, L, t, x, t', hs, h0, h1, h, hw => by
    rw [treeO] at h
    by_cases hm : t.1 at_ = true
    · rw [if_pos hm] at h
      obtain ⟨e1, e2⟩ := Prod.mk.inj (Option.some.inj h)
      refine ⟨[], by rw [← e2]; simpa using hs, fun s d hg he => ⟨s, by rw [goO, if_pos ((hg.met at_ h0 h1).2 (by rw [he]; exact (hs.met at_).1 hm))], by simpa using he, hg⟩, by simp, fun U c h3 h4 => ?_⟩
      rw [← e1, LayP]
      have h5 := h3 at_ ((hs.met at_).1 hm)
      have h6 := h4 at_
      rw [if_pos rfl] at h6
      exact .inl ⟨(hs.met at_).1 hm, by omega, rfl, rfl, rfl, rfl, rfl⟩
    · rw [if_neg hm] at h
      split at h
      · cases h
      · dsimp only at h
        have hnm : at_ ∉ L := fun e => hm ((hs.met at_).2 e)
        have hs2 : ∀ w, LaS l.length (L ++ [at_]) (seen t.1 at_, w, t.2.2 + 1) := fun w => hs.add at_ w h0 h1 hm
        have hkid := hk _ (rd_mem l at_ h0 h1)
        generalize hwy : (if 5 ≤ (rd_T45 l at_).f0 ∧ deep = 64 then (10 : Int) else t.2.1) = why at h
        by_cases hwh : why ≠ 0
        · rw [if_pos hwh] at h
          have := (Prod.mk.inj (Option.some.inj h)).2
          rw [← this] at hw
          exact absurd hw hwh
        · rw [if_neg hwh] at h
          have hdp : 5 ≤ (rd_T45 l at_).f0 → deep ≠ 64 := fun h5 e => hwh (by rw [← hwy, if_pos ⟨h5, e⟩]; decide)
          obtain ⟨p, hp1, hp2⟩ := Option.map_eq_some_iff.1 h
          obtain ⟨e1, e2⟩ := Prod.mk.inj hp2
          have fold : ∀ (kids : List Int) (ts : List Tr) (L1 : List Int) (t1 : LS) (p : List Tr × LS), LaS l.length L1 t1 → (∀ k ∈ kids, 0 ≤ k ∧ k < (l.length : Int)) → kids.foldlM (fun (p : List Tr × LS) k => (treeO l an K k (deep + 1) p.2).map fun q => (p.1 ++ [q.1], q.2)) (ts, t1) = some p → p.2.2.1 = 0 →
              ∃ us ext, p.1 = ts ++ us ∧ LaS l.length (L1 ++ ext) p.2 ∧ (∀ (s : WS) (d : Int), GoS l.length s → s.2.1 = L1 → ∃ s', kids.foldlM (fun s x => goO l K x d s) s = some s' ∧ s'.2.1 = L1 ++ ext ∧ GoS l.length s') ∧ (∀ j ∈ ext, j ∈ kids ∨ 1 ≤ cntK l ext j) ∧ ∀ (U c : Int → Nat), (∀ k ∈ L1, 1 ≤ c k) → (∀ k, c k + kids.count k + cntK l ext k ≤ U k) → LaysP l an U us kids L1 ext (deep + 1) := by
            intro kids
            induction kids with
            | nil =>
              intro ts L1 t1 p hl _ h2 _
              have := Option.some.inj h2
              rw [← this]
              exact ⟨[], [], by simp, by simpa using hl, fun s d hg he => ⟨s, rfl, by simpa using he, hg⟩, by simp, fun U c _ _ => by rw [LaysP]; exact ⟨rfl, rfl⟩⟩
            | cons k r ih =>
              intro ts L1 t1 p hl hr h2 hp0
              rw [List.foldlM_cons] at h2
              obtain ⟨p1, q1, q2⟩ := Option.bind_eq_some_iff.1 h2
              obtain ⟨q, r1, r2⟩ := Option.map_eq_some_iff.1 q1
              obtain ⟨x1, t2⟩ := q
              subst r2
              have ht2 : t2.2.1 = 0 := Decidable.byContradiction fun hne => why_kids l an K (deep + 1) r _ t2 p hne q2 hp0
              obtain ⟨ea, g1, gg, g2, g3⟩ := lay_some l an hk K k (deep + 1) L1 t1 x1 t2 hl (hr k (by simp)).1 (hr k (by simp)).2 r1 ht2
              obtain ⟨us, eb, f1, f2, ff, f3, f4⟩ := ih (ts ++ [x1]) (L1 ++ ea) t2 p g1 (fun y hy => hr y (by simp [hy])) q2 hp0
              refine ⟨x1 :: us, ea ++ eb, by rw [f1]; simp, by rw [← List.append_assoc]; exact f2, fun s d hg he => (by
                obtain ⟨s2, c1, c2, c3⟩ := gg s d hg he
                obtain ⟨s3, d1, d2, d3⟩ := ff s2 d c3 c2
                exact ⟨s3, by rw [List.foldlM_cons, c1]; exact d1, by rw [d2, List.append_assoc], d3⟩), fun j hj => ?_, fun U c hc1 hc2 => ?_⟩
              · rw [cntK_append]
                rcases List.mem_append.1 hj with hja | hjb
                · rcases g2 j hja with e | e
                  · exact .inl (by simp [e])
                  · exact .inr (by omega)
                · rcases f3 j hjb with e | e
                  · exact .inl (by simp [e])
                  · exact .inr (by omega)
              · rw [LaysP]
                have hc3 : ∀ j, c j + ((if j = k then 1 else 0) + r.count j) + (cntK l ea j + cntK l eb j) ≤ U j := fun j => by
                  have := hc2 j
                  rw [cntK_append, List.count_cons] at this
                  by_cases e : j = k
                  · subst e; simp at this ⊢; omega
                  · have e' : ¬ k = j := fun z => e z.symm
                    simp [e, e'] at this ⊢; omega
                refine ⟨k, r, ea, eb, rfl, rfl, g3 U c hc1 (fun j => by have := hc3 j; omega), f4 U (fun j => c j + (if j = k then 1 else 0) + cntK l ea j) (fun j hj => ?_) (fun j => by have := hc3 j; omega)⟩
                rcases List.mem_append.1 hj with hja | hjb
                · have := hc1 j hja; omega
                · rcases g2 j hjb with e | e
                  · rw [if_pos e]; omega
                  · omega
          obtain ⟨us, ext, f1, f2, ff, f3, f4⟩ := fold _ [] (L ++ [at_]) _ p (hs2 why) hkid hp1 (by rw [e2]; exact hw)
          rw [List.nil_append] at f1
          have hcc : ∀ k, cntK l (at_ :: ext) k = (rd_T45 l at_).f2.count k + cntK l ext k := fun k => by simp [cntK]
          refine ⟨at_ :: ext, by rw [← e2]; simpa using f2, fun s d hg he => (by
            have hmm : ¬ rdOf false s.1 at_ = true := fun h => hm ((hs.met at_).2 (by rw [← he]; exact (hg.met at_ h0 h1).1 h))
            obtain ⟨s', c1, c2, c3⟩ := ff _ (d + 1) (hg.add at_ (if s.2.2 < d then d else s.2.2) h0 h1 hmm) (by dsimp only; rw [he])
            exact ⟨s', by rw [goO, if_neg hmm]; exact c1, by rw [c2]; simp, c3⟩), fun j hj => ?_, fun U c hc1 hc2 => ?_⟩
          · rw [hcc]
            rcases List.mem_cons.1 hj with e | e
            · exact .inl e
            · rcases f3 j e with z | z
              · have := List.count_pos_iff.2 z; exact .inr (by omega)
              · exact .inr (by omega)
          · rw [← e1, LayP]
            refine .inr ⟨hnm, ⟨h0, h1⟩, hdp, rfl, rfl, rfl, ext, rfl, ?_⟩
            rw [f1]
            refine f4 U (fun j => c j + (if j = at_ then 1 else 0)) (fun j hj => ?_) (fun j => by have := hc2 j; rw [hcc] at this; omega)
            rcases List.mem_append.1 hj with z | z
            · have := hc1 j z; omega
            · have : j = at_ := by simpa using z
              rw [if_pos this]; omega
theorem ftext_of (K : Nat) (kd : Int) (s : ByteArray) (hs : s.size ≤ 1099511627775) : flow_isText.f (K + 1) kd s = some (textB kd s) := by
 have hR : plain_Resolve.f s = some (resB s.data.toList) := by unfold plain_Resolve.f; rw [if_pos (by omega)]
 have hD : utf_Decode.f s = some (decodeB s.data.toList) := by unfold utf_Decode.f; rw [if_pos hs]
 unfold flow_isText.f textB
 by_cases h2 : kd = 2
 · subst h2; simp [flow_isText.j0, hR]
 by_cases h3 : kd = 3
 · subst h3; simp [flow_isText.j0, hR]
 by_cases h4 : kd = 4
 · subst h4; simp [flow_isText.j0, hD]
 have : (kd == 3) = false := beq_eq_false_iff_ne.2 h3
 simp [flow_isText.j0, h2, h3, h4]
def KeyOK (l : List Nd) (U : Int → Nat) : Bool → List Int → List (Int × ByteArray) → Prop
 | _, [], _ => True
 | true, k :: r, met => (U k ≤ 1 ∧ 1 ≤ (rd_T45 l k).f0 ∧ (rd_T45 l k).f0 ≤ 4 ∧ keyIs l k ∉ met) ∧ KeyOK l U false r (keyIs l k :: met)
 | false, _ :: r, met => KeyOK l U true r met
structure BackG (l : List Nd) (an : Int → ByteArray) (U : Int → Nat) : Prop where
 k1 : ∀ k, 0 ≤ k → k < (l.length : Int) → 1 ≤ (rd_T45 l k).f0 ∧ (rd_T45 l k).f0 ≤ 6
 text : ∀ k, 0 ≤ k → k < (l.length : Int) → textB (rd_T45 l k).f0 (rd_T45 l k).f1 = true
 tsz : ∀ k, 0 ≤ k → k < (l.length : Int) → (rd_T45 l k).f1.size ≤ 1099511627775
 ksz : ∀ k, 0 ≤ k → k < (l.length : Int) → (rd_T45 l k).f2.length ≤ 1048576
 scal : ∀ k, 0 ≤ k → k < (l.length : Int) → (rd_T45 l k).f0 ≤ 4 → (rd_T45 l k).f2 = []
 even : ∀ k, 0 ≤ k → k < (l.length : Int) → (rd_T45 l k).f0 = 6 → (rd_T45 l k).f2.length % 2 = 0
 keys : ∀ k, 0 ≤ k → k < (l.length : Int) → (rd_T45 l k).f0 = 6 → KeyOK l U true (rd_T45 l k).f2 []
 some_ : ∀ k, 2 ≤ U k → an k ≠ ⟨#[]⟩
 none_ : ∀ k, U k ≤ 1 → an k = ⟨#[]⟩
 name : ∀ k, an k ≠ ⟨#[]⟩ → flow_Name.f (an k) = some true
 asz : ∀ k, (an k).size ≤ 1099511627776
 inj : ∀ k j, an k = an j → an k ≠ ⟨#[]⟩ → k = j
theorem no_list : (⟨#[]⟩ : ByteArray).toList = [] := by rw [Lib.toList_data]
theorem name_none : flow_Name.f (⟨#[]⟩ : ByteArray) = some false := by
 unfold flow_Name.f
 rw [if_pos no_list]
theorem laysP_len (l : List Nd) (an : Int → ByteArray) (U : Int → Nat) : ∀ (ts : List Tr) (ks L ext : List Int) (deep : Int), LaysP l an U ts ks L ext deep → ts.length = ks.length
 | [], ks, L, ext, deep, h => by rw [LaysP] at h; rw [h.1]; rfl
 | x :: r, ks, L, ext, deep, h => by
  rw [LaysP] at h
  obtain ⟨k, kr, e1, e2, rfl, _, _, h2⟩ := h
  simp [laysP_len l an U r kr _ e2 deep h2]
theorem lay_key (l : List Nd) (an : Int → ByteArray) (U : Int → Nat) (hB : BackG l an U) (x : Tr) (k : Int) (L ext : List Int) (deep : Int) (h : LayP l an U x k L ext deep) (hU : U k ≤ 1) : x.f0 = (rd_T45 l k).f0 ∧ x.f1 = (rd_T45 l k).f1 ∧ x.f2 = ⟨#[]⟩ ∧ 0 ≤ k ∧ k < (l.length : Int) := by
 obtain ⟨x0, x1, x2, x3⟩ := x
 rw [LayP] at h
 rcases h with ⟨_, h2, _⟩ | ⟨_, h3, _, h4, h5, h6, _⟩
 · omega
 · exact ⟨h4, h5, h6.trans (hB.none_ k hU), h3.1, h3.2⟩
mutual
theorem rgt_lay (l : List Nd) (an : Int → ByteArray) (U : Int → Nat) (hB : BackG l an U) : ∀ (x : Tr) (at_ : Int) (L ext : List Int) (deep : Int) (M : Nat) (left : Int), LayP l an U x at_ L ext deep → 0 ≤ deep → deep ≤ 64 → 66 ≤ (M : Int) + deep → ((1 + kidsL l ext : Nat) : Int) ≤ left → left ≤ 4096 → rgtO M x deep left = some (true, left - ((1 + kidsL l ext : Nat) : Int))
  | .mk k x a ts, at_, L, ext, deep, M, left, h, hd0, hd1, hM, hl, hl2 => by
    obtain ⟨M, rfl⟩ : ∃ m, M = m + 1 := ⟨M - 1, by omega⟩
    rw [LayP] at h
    rw [rgtO]
    dsimp only
    rcases h with ⟨_, h2, rfl, rfl, rfl, rfl, rfl⟩ | ⟨hnm, ⟨h0, h1⟩, hdp, rfl, rfl, rfl, e, rfl, hks⟩
    · have ht : flow_isText.f 9 7 (⟨#[]⟩ : ByteArray) = some true := by
        rw [ftext_of 8 7 _ (by decide)]
        unfold textB
        rw [if_neg (by decide), if_neg (by decide), if_neg (by decide), no_list]; rfl
      have hn := hB.name at_ (hB.some_ at_ h2)
      rw [ht, hn]
      dsimp only
      have hk0 : kidsL l [] = 0 := rfl
      rw [hk0] at hl ⊢
      rw [if_neg (by simp), if_neg (by omega), if_neg (by decide), if_neg (by decide), if_neg (by decide), if_neg (by simp), if_pos (by decide)]
      simp
    · have hk1 := hB.k1 at_ h0 h1
      have hts := laysP_len l an U _ _ _ _ _ hks
      have hkz := hB.ksz at_ h0 h1
      have ht : flow_isText.f 9 (rd_T45 l at_).f0 (rd_T45 l at_).f1 = some true := by rw [ftext_of 8 _ _ (hB.tsz at_ h0 h1), hB.text at_ h0 h1]
      have hn : ∃ nm, flow_Name.f (an at_) = some nm ∧ ¬ (((an at_).toList ≠ [] ∨ (rd_T45 l at_).f0 = 7) ∧ nm = false) := by
        by_cases c : an at_ = ⟨#[]⟩
        · refine ⟨false, by rw [c, name_none], fun z => ?_⟩
          rcases z.1 with z | z
          · exact z (by rw [c, no_list])
          · omega
        · exact ⟨true, hB.name at_ c, fun z => by cases z.2⟩
      obtain ⟨nm, hn1, hn2⟩ := hn
      have hkl : kidsL l (at_ :: e) = (rd_T45 l at_).f2.length + kidsL l e := by simp [kidsL]
      rw [hkl] at hl ⊢
      rw [ht, hn1]
      dsimp only
      rw [if_neg (by omega), if_neg (by omega), if_neg (by omega), if_neg (by omega), if_neg (by decide), if_neg hn2]
      by_cases c5 : (rd_T45 l at_).f0 ≠ 5 ∧ (rd_T45 l at_).f0 ≠ 6
      · rw [if_pos c5]
        have hnil := hB.scal at_ h0 h1 (by omega)
        rw [hnil] at hts hks
        have hts0 : ts = [] := List.length_eq_zero_iff.1 (by rw [hts]; rfl)
        subst hts0
        rw [LaysP] at hks
        rw [hks.2, hnil]
        simp [kidsL]
      · rw [if_neg c5]
        have hd64 : deep ≠ 64 := hdp (by omega)
        rw [if_neg (by
          intro z
          rcases z with z | z
          · exact hd64 z
          · rw [hts] at z; exact z.2 (hB.even at_ h0 h1 z.1))]
        have hr := rgts_lay l an U hB ts (rd_T45 l at_).f2 (L ++ [at_]) e (deep + 1) M (left - 1) 0 (decide ((rd_T45 l at_).f0 = 6)) [] hks (fun hm => by rw [show (decide (0 % 2 = 0)) = true from rfl]; exact hB.keys at_ h0 h1 (of_decide_eq_true hm)) (by omega) (by omega) (by omega) (by omega) (by omega)
        rw [hr]
        congr 2
        omega
theorem rgts_lay (l : List Nd) (an : Int → ByteArray) (U : Int → Nat) (hB : BackG l an U) : ∀ (ts : List Tr) (ks L ext : List Int) (deep : Int) (M : Nat) (left : Int) (i : Nat) (m : Bool) (met : List (Int × ByteArray)), LaysP l an U ts ks L ext deep → (m = true → KeyOK l U (decide (i % 2 = 0)) ks met) → 0 ≤ deep → deep ≤ 64 → 66 ≤ (M : Int) + deep → ((ks.length + kidsL l ext : Nat) : Int) ≤ left → left ≤ 4096 → rgtsO (fun k => rgtO M k deep) m i ts left = some (true, left - ((ks.length + kidsL l ext : Nat) : Int))
  | [], ks, L, ext, deep, M, left, i, m, met, h, _, _, _, _, _, _ => by
    rw [LaysP] at h
    rw [rgtsO, h.1, h.2]
    simp [kidsL]
  | x :: r, ks, L, ext, deep, M, left, i, m, met, h, hK, hd0, hd1, hM, hl, hl2 => by
    rw [LaysP] at h
    obtain ⟨k, kr, e1, e2, rfl, rfl, h1, h2⟩ := h
    rw [kidsL_append, List.length_cons] at hl ⊢
    have hx := rgt_lay l an U hB x k L e1 deep M left h1 hd0 hd1 hM (by omega) hl2
    have hnk : ¬ (m = true ∧ i % 2 = 0 ∧ (flow_isScalar.f x.f0 = some false ∨ x.f2.toList ≠ [])) := fun z => by
      have hk := hK z.1
      rw [decide_eq_true z.2.1, KeyOK] at hk
      obtain ⟨g1, _, g3, _, _⟩ := lay_key l an U hB x k L e1 deep h1 hk.1.1
      rcases z.2.2 with z | z
      · unfold flow_isScalar.f at z
        rw [g1, if_pos hk.1.2.1, decide_eq_true hk.1.2.2.1] at z
        cases z
      · exact z (by rw [g3, no_list])
    have hr := rgts_lay l an U hB r kr (L ++ e1) e2 deep M (left - ((1 + kidsL l e1 : Nat) : Int)) (i + 1) m (if i % 2 = 0 then keyIs l k :: met else met) h2 (fun hm => by
      have hk := hK hm
      by_cases c : i % 2 = 0
      · rw [decide_eq_true c, KeyOK] at hk
        rw [decide_eq_false (by omega), if_pos c]
        exact hk.2
      · rw [decide_eq_false c, KeyOK] at hk
        rw [decide_eq_true (by omega), if_neg c]
        exact hk) hd0 hd1 hM (by omega) (by omega)
    rw [rgtsO, if_neg hnk, hx]
    dsimp only
    rw [if_neg (by decide), hr]
    congr 2
    omega
end
def finN (l : List Nd) (pos : Int → Int) (a : Int) : Nd := ⟨(rd_T45 l a).f0, (rd_T45 l a).f1, (rd_T45 l a).f2.map pos⟩
def InvF (an : Int → ByteArray) (pos : Int → Int) (F : ByteArray → Option Int) (L : List Int) : Prop := ∀ a i, F a = some i ↔ (a ≠ ⟨#[]⟩ ∧ ∃ k ∈ L, an k = a ∧ pos k = i)
theorem inv_open {l : List Nd} {an : Int → ByteArray} {U : Int → Nat} {pos : Int → Int} {F : ByteArray → Option Int} {L : List Int} (hB : BackG l an U) (h : InvF an pos F L) (at_ : Int) (hn : at_ ∉ L) : InvF an pos (putA F (an at_) (pos at_)) (L ++ [at_]) := by
 intro a i
 unfold putA
 by_cases c : an at_ = ⟨#[]⟩
 ·
  rw [if_pos c, h a i]
  refine and_congr_right fun ha => ⟨fun ⟨k, h1, h2⟩ => ⟨k, by simp [h1], h2⟩, fun ⟨k, h1, h2, h3⟩ => ?_⟩
  rcases List.mem_append.1 h1 with z | z
  · exact ⟨k, z, h2, h3⟩
  ·
   have : k = at_ := by simpa using z
   subst this
   exact absurd (h2.symm.trans c) ha
 rw [if_neg c]
 by_cases e : a = an at_
 ·
  rw [if_pos e]
  refine ⟨fun z => ⟨by rw [e]; exact c, at_, by simp, e.symm, Option.some.inj z⟩, fun ⟨_, k, h1, h2, h3⟩ => ?_⟩
  have hk : k = at_ := hB.inj k at_ (h2.trans e) (by rw [h2, e]; exact c)
  rw [← h3, hk]
 rw [if_neg e, h a i]
 refine and_congr_right fun ha => ⟨fun ⟨k, h1, h2⟩ => ⟨k, by simp [h1], h2⟩, fun ⟨k, h1, h2, h3⟩ => ?_⟩
 rcases List.mem_append.1 h1 with z | z
 · exact ⟨k, z, h2, h3⟩
 ·
  have : k = at_ := by simpa using z
  subst this
  exact absurd h2.symm e
theorem setK_mid (ns r : List Nd) (o : Nd) (kids : List Int) : setK (ns ++ [o] ++ r) ns.length kids = ns ++ [⟨o.f0, o.f1, kids⟩] ++ r := by
 have h : rd_T45 (ns ++ [o] ++ r) (ns.length : Int) = o := by
  unfold rd_T45
  rw [Int.toNat_natCast, List.getD_eq_getElem?_getD, List.append_assoc, List.getElem?_append_right (Nat.le_refl _), Nat.sub_self]; rfl
 unfold setK
 rw [h, List.append_assoc, List.set_append_right _ _ (Nat.le_refl _), Nat.sub_self]
 simp
mutual
theorem comp_lay (l : List Nd) (an : Int → ByteArray) (U : Int → Nat) (hB : BackG l an U) (pos : Int → Int) : ∀ (x : Tr) (at_ : Int) (L ext : List Int) (deep : Int) (M : Nat) (ns : List Nd) (F : ByteArray → Option Int), LayP l an U x at_ L ext deep → deep ≤ 64 → 66 ≤ (M : Int) + deep → ns.length = L.length → InvF an pos F L → (∀ i (h : i < (L ++ ext).length), pos (L ++ ext)[i] = (i : Int)) → (L ++ ext).length ≤ 4096 →
  ∃ F', compO M x (ns, F, 0) = some (pos at_, (ns ++ ext.map (finN l pos), F', 0)) ∧ InvF an pos F' (L ++ ext)
 | .mk k x a ts, at_, L, ext, deep, M, ns, F, h, hd, hM, hn, hF, hp, hl => by
  obtain ⟨M, rfl⟩ : ∃ m, M = m + 1 := ⟨M - 1, by omega⟩
  rw [LayP] at h
  rw [compO]
  dsimp only
  rcases h with ⟨hm, h2, rfl, rfl, rfl, rfl, rfl⟩ | ⟨hnm, ⟨h0, h1⟩, hdp, rfl, rfl, rfl, e, rfl, hks⟩
  ·
   rw [if_pos (hB.asz at_), if_pos rfl, (hF (an at_) (pos at_)).2 ⟨hB.some_ at_ h2, at_, hm, rfl, rfl⟩]
   exact ⟨F, by simp, by simpa using hF⟩
  ·
   have hk1 := hB.k1 at_ h0 h1
   have hts := laysP_len l an U _ _ _ _ _ hks
   have hkz := hB.ksz at_ h0 h1
   have hpl : pos at_ = (ns.length : Int) := by
    have := hp L.length (by simp)
    rw [List.getElem_append_right (Nat.le_refl _)] at this
    simp at this
    rw [this, hn]
   have hll : L.length ≤ 4096 := by rw [List.length_append] at hl; omega
   rw [if_pos (hB.asz at_), if_neg (by omega), if_pos ⟨by omega, by omega⟩]
   have hF1 := inv_open hB hF at_ hnm
   rw [hpl] at hF1
   have hq : L ++ at_ :: e = (L ++ [at_]) ++ e := by simp
   have hdeep : (rd_T45 l at_).f2 ≠ [] → deep + 1 ≤ 64 := fun hne => by
    have h5 : 5 ≤ (rd_T45 l at_).f0 := Decidable.byContradiction fun z => hne (hB.scal at_ h0 h1 (by omega))
    have := hdp h5
    omega
   obtain ⟨F', g1, g2⟩ := comps_lay l an U hB pos ts (rd_T45 l at_).f2 (L ++ [at_]) e (deep + 1) M (ns ++ [⟨(rd_T45 l at_).f0, (rd_T45 l at_).f1, []⟩]) (putA F (an at_) (ns.length : Int)) (rd_T45 l at_).f0 ns.length [] [] hks (fun h6 => hB.keys at_ h0 h1 h6) hdeep (by omega) (by simp [hn]) hF1 (by rw [← hq]; exact hp) (by rw [← hq]; exact hl)
   refine ⟨F', ?_, by rw [hq]; exact g2⟩
   rw [g1, setK_mid, hpl]
   simp [finN]
theorem comps_lay (l : List Nd) (an : Int → ByteArray) (U : Int → Nat) (hB : BackG l an U) (pos : Int → Int) : ∀ (ts : List Tr) (ks L ext : List Int) (deep : Int) (M : Nat) (ns : List Nd) (F : ByteArray → Option Int) (kd : Int) (a0 : Nat) (met : List (Int × ByteArray)) (done : List Int), LaysP l an U ts ks L ext deep → (kd = 6 → KeyOK l U (decide (done.length % 2 = 0)) ks met) → (ks ≠ [] → deep ≤ 64) → 66 ≤ (M : Int) + deep → ns.length = L.length → InvF an pos F L → (∀ i (h : i < (L ++ ext).length), pos (L ++ ext)[i] = (i : Int)) → (L ++ ext).length ≤ 4096 →
    ∃ F', compL (compO M) kd a0 ts met done (ns, F, 0) = some ((a0 : Int), (setK (ns ++ ext.map (finN l pos)) a0 (done ++ ks.map pos), F', 0)) ∧ InvF an pos F' (L ++ ext)
  | [], ks, L, ext, deep, M, ns, F, kd, a0, met, done, h, _, _, _, hn, hF, _, _ => by
    rw [LaysP] at h
    obtain ⟨rfl, rfl⟩ := h
    rw [compL]
    exact ⟨F, by simp, by simpa using hF⟩
  | x :: r, ks, L, ext, deep, M, ns, F, kd, a0, met, done, h, hK, hd, hM, hn, hF, hp, hl => by
    rw [LaysP] at h
    obtain ⟨k, kr, e1, e2, rfl, rfl, h1, h2⟩ := h
    have hd64 := hd (by simp)
    have hq : L ++ (e1 ++ e2) = (L ++ e1) ++ e2 := by simp
    obtain ⟨F1, g1, g2⟩ := comp_lay l an U hB pos x k L e1 deep M ns F h1 hd64 hM hn hF (fun i hi => by
      have := hp i (by rw [hq, List.length_append]; omega)
      rw [← this]
      congr 1
      simp only [hq]
      rw [List.getElem_append_left hi]) (by rw [hq, List.length_append] at hl; omega)
    have step : ∀ met2, (kd = 6 → KeyOK l U (decide ((done ++ [pos k]).length % 2 = 0)) kr met2) → ∃ F', compL (compO M) kd a0 r met2 (done ++ [pos k]) (ns ++ e1.map (finN l pos), F1, 0) = some ((a0 : Int), (setK (ns ++ (e1 ++ e2).map (finN l pos)) a0 (done ++ (k :: kr).map pos), F', 0)) ∧ InvF an pos F' (L ++ (e1 ++ e2)) := fun met2 hK2 => by
      obtain ⟨F2, f1, f2⟩ := comps_lay l an U hB pos r kr (L ++ e1) e2 deep M (ns ++ e1.map (finN l pos)) F1 kd a0 met2 (done ++ [pos k]) h2 hK2 (fun _ => hd64) hM (by simp [hn]) g2 (by rw [← hq]; exact hp) (by rw [← hq]; exact hl)
      refine ⟨F2, ?_, by rw [hq]; exact f2⟩
      rw [f1]
      simp
    rw [compL]
    dsimp only
    rw [if_neg (by simp)]
    by_cases c : kd = 6 ∧ done.length % 2 = 0
    · have hk := hK c.1
      rw [decide_eq_true c.2, KeyOK] at hk
      obtain ⟨q1, q2, q3, q4, q5⟩ := lay_key l an U hB x k L e1 deep h1 hk.1.1
      have hkey : (x.f0, x.f1) = keyIs l k := by rw [q1, q2]; rfl
      have hgood : goodT x = true := by
        have := hB.tsz k q4 q5
        have := hB.k1 k q4 q5
        unfold goodT
        rw [q1, q2, decide_eq_true (by omega), decide_eq_true (by omega), decide_eq_true (by omega)]; rfl
      have hany : ¬ met.any (fun z => decide (z = (x.f0, x.f1))) = true := fun z => by
        obtain ⟨y, hy1, hy2⟩ := List.any_eq_true.1 z
        exact hk.1.2.2.2 (by rw [← hkey, ← of_decide_eq_true hy2]; exact hy1)
      rw [if_pos c, if_pos hgood, if_neg hany, g1, Option.bind_some]
      exact step _ (fun _ => by rw [List.length_append, List.length_singleton, decide_eq_false (by omega), hkey]; exact hk.2)
    · rw [if_neg c, g1, Option.bind_some]
      exact step _ (fun h6 => by
        have hk := hK h6
        have hod : ¬ done.length % 2 = 0 := fun z => c ⟨h6, z⟩
        rw [decide_eq_false hod, KeyOK] at hk
        rw [List.length_append, List.length_singleton, decide_eq_true (by omega)]
        exact hk)
end
end Go.Proofs.YtnjcpoojgmpmeaaGreatDoor.Plug
namespace Go.Proofs.YtnjcpoojgmpmeaaGreatDoor.Nums
open RowKit
theorem parse_append : ∀ (l r : List UInt8) (acc a : Nat), Lib.parseUint10 acc l = .ok a → Lib.parseUint10 acc (l ++ r) = Lib.parseUint10 a r
 | [], r, acc, a, h => by
  simp only [Lib.parseUint10] at h
  injection h with h
  rw [h]; rfl
 | c :: l, r, acc, a, h => by
  simp only [List.cons_append, Lib.parseUint10] at h ⊢
  by_cases h1 : 48 ≤ c.toNat ∧ c.toNat ≤ 57
  rotate_left
  · rw [if_neg h1] at h; cases h
  rw [if_pos h1] at h ⊢
  by_cases h2 : 1844674407370955162 ≤ acc
  · rw [if_pos h2] at h; cases h
  rw [if_neg h2] at h ⊢
  by_cases h3 : 18446744073709551616 ≤ acc * 10 + (c.toNat - 48)
  · rw [if_pos h3] at h; cases h
  rw [if_neg h3] at h ⊢
  exact parse_append l r _ a h
theorem digit_nat (d : Nat) (h : d < 10) : (UInt8.ofNat (48 + d)).toNat = 48 + d := by
  simp only [UInt8.toNat_ofNat']; omega
theorem parse_dec (u : Nat) : u < 18446744073709551616 → Lib.parseUint10 0 (Lib.decDigits u) = .ok u := by
 induction u using Nat.strongRecOn with
 | _ u ih =>
  intro hu
  rw [Lib.decDigits]
  by_cases h : u < 10
  ·
   rw [dif_pos h]
   have e := digit_nat u h
   simp only [Lib.parseUint10, e]
   rw [if_pos (by omega), if_neg (by omega), if_neg (by omega)]
   congr 1; omega
  rw [dif_neg h, parse_append _ _ 0 (u / 10) (ih (u / 10) (by omega) (by omega))]
  have e := digit_nat (u % 10) (by omega)
  simp only [Lib.parseUint10, e]
  rw [if_pos (by omega), if_neg (by omega), if_neg (by omega)]
  congr 1; omega
theorem dec_ne (u : Nat) : Lib.decDigits u ≠ [] := by
 rw [Lib.decDigits]
 by_cases h : u < 10
 · rw [dif_pos h]; simp
 rw [dif_neg h]; simp
theorem dec_digit (u : Nat) : ∀ c ∈ Lib.decDigits u, 48 ≤ c.toNat ∧ c.toNat ≤ 57 := by
 induction u using Nat.strongRecOn with
 | _ u ih =>
  rw [Lib.decDigits]
  by_cases h : u < 10
  ·
   rw [dif_pos h]
   intro c hc
   rw [List.mem_singleton] at hc
   subst hc
   rw [digit_nat u h]; omega
  rw [dif_neg h]
  intro c hc
  rcases List.mem_append.1 hc with hc | hc
  · exact ih (u / 10) (by omega) c hc
  ·
   rw [List.mem_singleton] at hc
   subst hc
   rw [digit_nat (u % 10) (by omega)]; omega
theorem itoa_back (n : Int) (h0 : -9223372036854775808 ≤ n) (h1 : n ≤ 9223372036854775807) : Lib.atoiAll (Lib.itoa n) = .ok n := by
 unfold Lib.itoa
 by_cases h : n < 0
 ·
  rw [if_pos h, Lib.atoiAll_minus]
  unfold Lib.parseMag
  rw [if_neg (dec_ne _), parse_dec _ (by omega)]
  unfold Lib.signed
  simp only
  rw [if_neg (by omega)]
  congr 1; omega
 rw [if_neg h]
 have hd := dec_digit n.toNat
 have hp := parse_dec n.toNat (by omega)
 have hn := dec_ne n.toNat
 generalize Lib.decDigits n.toNat = l at hd hp hn
 cases l with
 | nil => exact absurd rfl hn
 | cons c r =>
  have hc := hd c (by simp)
  rw [Lib.atoiAll_plain c r (by omega) (by omega)]
  unfold Lib.parseMag
  rw [if_neg (by simp), hp]
  unfold Lib.signless
  simp only
  rw [if_neg (by omega)]
  congr 1; omega
end Go.Proofs.YtnjcpoojgmpmeaaGreatDoor.Nums
namespace Go.Proofs.YtnjcpoojgmpmeaaGreatDoor.Plug
open Go.Maps RowKit YtnjcpoojgmpmeaaGreatDoor YtnjcpoojgmpmeaaGreatDoor.PX YtnjcpoojgmpmeaaGreatDoor.Utf YtnjcpoojgmpmeaaGreatDoor.Mapk YtnjcpoojgmpmeaaGreatDoor.Graphs YtnjcpoojgmpmeaaGreatDoorW.PrintWords YtnjcpoojgmpmeaaGreatDoorW.PrintLast YtnjcpoojgmpmeaaGreatDoorW.PrintMore
set_option linter.unusedVariables false
set_option linter.unusedSimpArgs false
def nmR : List Int → Nat → Int → ByteArray
 | [], _, _ => ⟨#[]⟩
 | a :: r, n, k => if a = k then nameB (n + 1) else nmR r (n + 1) k
theorem nmR_out : ∀ (L : List Int) (n : Nat) (k : Int), k ∉ L → nmR L n k = ⟨#[]⟩
 | [], _, _, _ => rfl
 | a :: r, n, k, h => by
  rw [nmR, if_neg (fun e => h (by simp [e])), nmR_out r (n + 1) k (fun e => h (by simp [e]))]
theorem anG_nm : ∀ (L : List Int) (n : Nat) (F : Int → Option ByteArray) (k : Int), L.Nodup → k ∈ L → anG L n F k = some (nmR L n k)
 | [], _, _, _, _, h => by simp at h
 | a :: r, n, F, k, hn, h => by
  obtain ⟨h1, h2⟩ := List.nodup_cons.1 hn
  rw [anG, nmR]
  by_cases e : a = k
  ·
   subst e
   rw [if_pos rfl, anG_out r _ _ a h1, if_pos rfl]
  rw [if_neg e]
  exact anG_nm r (n + 1) _ k h2 ((List.mem_cons.1 h).resolve_left (Ne.symm e))
theorem nm_an (L : List Int) (hn : L.Nodup) : nmR L 0 = anB L := by
 funext k
 by_cases h : k ∈ L
 · rw [anB, anG_nm L 0 _ k hn h]; rfl
 rw [anB, anG_out L 0 _ k h, nmR_out L 0 k h]; rfl
theorem nmR_in : ∀ (L : List Int) (n : Nat) (k : Int), k ∈ L → ∃ j, L[j]? = some k ∧ nmR L n k = nameB (n + j + 1)
 | [], _, _, h => by simp at h
 | a :: r, n, k, h => by
  rw [nmR]
  by_cases e : a = k
  · exact ⟨0, by simp [e], by rw [if_pos e]⟩
  obtain ⟨j, h1, h2⟩ := nmR_in r (n + 1) k ((List.mem_cons.1 h).resolve_left (Ne.symm e))
  exact ⟨j + 1, by simpa using h1, by rw [if_neg e, h2, show n + 1 + j + 1 = n + (j + 1) + 1 by omega]⟩
theorem name_size (n : Nat) (h : n ≤ 4611686018427387904) : (nameB n).size ≤ 22 := by
 unfold nameB
 rw [ByteArray.size_append]
 have h1 : (ByteArray.mk #[97]).size = 1 := rfl
 have h2 : (ByteArray.mk (Lib.itoa (n : Int)).toArray).size = (Lib.itoa (n : Int)).length := by show (Lib.itoa (n : Int)).toArray.size = _; rw [List.size_toArray]
 have h3 := Lib.itoa_length_le (n : Int) (by omega) (by omega)
 omega
theorem name_list (n : Nat) : (nameB n).data.toList = 97 :: Lib.decDigits n := by
 unfold nameB
 rw [← Lib.itoa_nonneg]
 simp [ByteArray.data_append]
theorem name_inj (a b : Nat) (ha : a ≤ 4611686018427387904) (hb : b ≤ 4611686018427387904) (h : nameB a = nameB b) : a = b := by
 have h1 := congrArg (fun s : ByteArray => s.data.toList) h
 rw [name_list, name_list] at h1
 have h2 := (List.cons.inj h1).2
 rw [← Lib.itoa_nonneg, ← Lib.itoa_nonneg] at h2
 have h3 := Nums.itoa_back (a : Int) (by omega) (by omega)
 rw [h2, Nums.itoa_back (b : Int) (by omega) (by omega)] at h3
 injection h3 with h3
 omega
def lettersL : List UInt8 := [97, 98, 99, 100, 101, 102, 103, 104, 105, 106, 107, 108, 109, 110, 111, 112, 113, 114, 115, 116, 117, 118, 119, 120, 121, 122, 65, 66, 67, 68, 69, 70, 71, 72, 73, 74, 75, 76, 77, 78, 79, 80, 81, 82, 83, 84, 85, 86, 87, 88, 89, 90, 48, 49, 50, 51, 52, 53, 54, 55, 56, 57, 45, 95]
theorem letter_digit (c : UInt8) (h : 48 ≤ c.toNat ∧ c.toNat ≤ 57) : c ∈ lettersL := by
 have h2 : c = 48 ∨ c = 49 ∨ c = 50 ∨ c = 51 ∨ c = 52 ∨ c = 53 ∨ c = 54 ∨ c = 55 ∨ c = 56 ∨ c = 57 := by
  have : c.toNat = 48 ∨ c.toNat = 49 ∨ c.toNat = 50 ∨ c.toNat = 51 ∨ c.toNat = 52 ∨ c.toNat = 53 ∨ c.toNat = 54 ∨ c.toNat = 55 ∨ c.toNat = 56 ∨ c.toNat = 57 := by omega
  simp only [← UInt8.toNat_inj]
  exact this
 rcases h2 with h | h | h | h | h | h | h | h | h | h <;> (subst h; decide)
theorem drop_all (cs : List UInt8) : ∀ l : List UInt8, (∀ c ∈ l, c ∈ cs) → l.dropWhile (cs.contains ·) = []
 | [], _ => rfl
 | c :: r, h => by
  rw [List.dropWhile_cons_of_pos (List.contains_iff_mem.2 (h c (by simp)))]
  exact drop_all cs r (fun x hx => h x (by simp [hx]))
theorem trim_all (l cs : List UInt8) (h : ∀ c ∈ l, c ∈ cs) : Lib.trimS l cs = [] := by
 unfold Lib.trimS Lib.trimRightS Lib.trimLeftS
 rw [drop_all cs l.reverse (fun c hc => h c (List.mem_reverse.1 hc))]; rfl
theorem name_name (n : Nat) (h : n ≤ 4611686018427387904) : flow_Name.f (nameB n) = some true := by
 have hz := name_size n h
 have hne : ¬ (nameB n).toList = [] := by rw [Lib.toList_data, name_list]; simp
 have ht : strings_Trim.f (nameB n) ⟨lettersL.toArray⟩ = some ⟨#[]⟩ := by
  unfold strings_Trim.f
  have hl : (⟨lettersL.toArray⟩ : ByteArray).data.toList = lettersL := rfl
  rw [hl, if_pos ⟨by omega, by decide, by decide⟩, name_list, trim_all]
  intro c hc
  rcases List.mem_cons.1 hc with e | e
  · rw [e]; decide
  · exact letter_digit c (Nums.dec_digit n c e)
 unfold flow_Name.f
 rw [if_neg hne, if_pos (by omega)]
 have he : (⟨#[97, 98, 99, 100, 101, 102, 103, 104, 105, 106, 107, 108, 109, 110, 111, 112, 113, 114, 115, 116, 117, 118, 119, 120, 121, 122, 65, 66, 67, 68, 69, 70, 71, 72, 73, 74, 75, 76, 77, 78, 79, 80, 81, 82, 83, 84, 85, 86, 87, 88, 89, 90, 48, 49, 50, 51, 52, 53, 54, 55, 56, 57, 45, 95]⟩ : ByteArray) = ⟨lettersL.toArray⟩ := rfl
 rw [he, ht, Option.bind_some, no_list]; rfl
theorem sum_erase (f : Int → Nat) : ∀ (L : List Int) (a : Int), a ∈ L → (L.map f).sum = f a + ((L.erase a).map f).sum
 | [], a, h => by simp at h
 | b :: r, a, h => by
  by_cases e : b = a
  · subst e; simp
  have := sum_erase f r a ((List.mem_cons.1 h).resolve_left (Ne.symm e))
  rw [List.erase_cons_tail (by simpa using e)]
  simp only [List.map_cons, List.sum_cons, this]
  omega
theorem sum_places (f : Int → Nat) (g : Nat → Nat) : ∀ (n : Nat) (L : List Int), L.Nodup → (∀ k ∈ L, 0 ≤ k ∧ k < (n : Int)) → (∀ i, i < n → f (i : Int) = g i) → (L.map f).sum ≤ ((List.range n).map g).sum
  | 0, L, _, hr, _ => by
    cases L with
    | nil => simp
    | cons a r => have := hr a (by simp); omega
  | n + 1, L, hn, hr, hfg => by
    rw [List.range_succ, List.map_append, List.sum_append]
    by_cases h : (n : Int) ∈ L
    · have h1 := sum_places f g n (L.erase (n : Int)) (hn.erase _) (fun k hk => by
        have h2 := (List.Nodup.mem_erase_iff hn).1 hk
        have h3 := hr k h2.2
        have h4 := h2.1
        omega) (fun i hi => hfg i (by omega))
      have h5 := sum_erase f L (n : Int) h
      have h6 := hfg n (by omega)
      simp at h1 ⊢
      omega
    · have h1 := sum_places f g n L hn (fun k hk => by
        have h3 := hr k hk
        have : k ≠ (n : Int) := fun e => h (e ▸ hk)
        omega) (fun i hi => hfg i (by omega))
      omega
theorem cntL_range (l : List Nd) (k : Int) : cntL l k = ((List.range l.length).map fun (i : Nat) => (rd_T45 l (i : Int)).f2.count k).sum := by
 unfold cntL
 congr 1
 apply List.ext_getElem
 · simp
 ·
  intro i h1 h2
  simp only [List.length_map] at h1
  simp only [List.getElem_map, List.getElem_range]
  rw [rd_nat l i h1]
theorem cntK_le (l : List Nd) (xs : List Int) (k : Int) (hn : xs.Nodup) (hr : ∀ x ∈ xs, 0 ≤ x ∧ x < (l.length : Int)) : cntK l xs k ≤ cntL l k := by
 rw [cntL_range]
 exact sum_places (fun a => (rd_T45 l a).f2.count k) _ l.length xs hn hr (fun i _ => rfl)
theorem key_ok (l : List Nd) (U : Int → Nat) : ∀ (kids : List Int) (met : List (Int × ByteArray)), kids.length % 2 = 0 → (∀ k ∈ evens kids, U k ≤ 1 ∧ 1 ≤ (rd_T45 l k).f0 ∧ (rd_T45 l k).f0 ≤ 4) → ((evens kids).map (keyIs l)).Nodup → (∀ k ∈ evens kids, keyIs l k ∉ met) → KeyOK l U true kids met
 | [], met, _, _, _, _ => by rw [KeyOK]; trivial
 | [a], met, h, _, _, _ => by simp at h
 | a :: b :: r, met, h, h1, h2, h3 => by
  rw [evens] at h1 h2 h3
  rw [List.map_cons] at h2
  obtain ⟨h4, h5⟩ := List.nodup_cons.1 h2
  obtain ⟨q1, q2, q3⟩ := h1 a (by simp)
  rw [KeyOK, KeyOK]
  refine ⟨⟨q1, q2, q3, h3 a (by simp)⟩, key_ok l U r (keyIs l a :: met) (by simp only [List.length_cons] at h; omega) (fun k hk => h1 k (by simp [hk])) h5 (fun k hk hm => ?_)⟩
  rcases List.mem_cons.1 hm with e | e
  · exact h4 (List.mem_map.2 ⟨k, hk, e⟩)
  · exact h3 k (by simp [hk]) e
theorem back_right (l : List Nd) (root : Int) (xs : List Int) (hs : sizesB l = true) (hM : ∀ n ∈ l, n.f2.length ≤ 1048576) (hG : RightG l root) (hn : xs.Nodup) (hr : ∀ x ∈ xs, 0 ≤ x ∧ x < (l.length : Int)) (hroot : root ∈ xs) (hcl : ∀ a ∈ xs, ∀ k ∈ (rd_T45 l a).f2, k ∈ xs) (hxl : xs.length ≤ 4096) :
  BackG l (anB (xs.filter (fun x => !decide ((usesC l xs (bumpC (fun _ => 0) root) x : Int) < 2)))) (usesC l xs (bumpC (fun _ => 0) root)) := by
 have hsh : (xs.filter (fun x => !decide ((usesC l xs (bumpC (fun _ => 0) root) x : Int) < 2))).Nodup := List.Pairwise.filter _ hn
 have hlen : (xs.filter (fun x => !decide ((usesC l xs (bumpC (fun _ => 0) root) x : Int) < 2))).length ≤ 4096 := Nat.le_trans (List.length_filter_le _ _) hxl
 have hU : ∀ k, usesC l xs (bumpC (fun _ => 0) root) k = (if k = root then 1 else 0) + cntK l xs k := fun k => by
  rw [usesC_sum]
  unfold bumpC cntK
  rfl
 have hmem : ∀ k, 2 ≤ usesC l xs (bumpC (fun _ => 0) root) k → k ∈ xs := fun k hk => by
  rw [hU] at hk
  by_cases e : k = root
  · rw [e]; exact hroot
  rw [if_neg e] at hk
  refine Decidable.byContradiction fun hne => ?_
  have : cntK l xs k = 0 := sum_zero _ xs (fun a ha => List.count_eq_zero.2 (fun z => hne (hcl a ha k z)))
  omega
 have hin : ∀ k, k ∈ (xs.filter (fun x => !decide ((usesC l xs (bumpC (fun _ => 0) root) x : Int) < 2))) ↔ 2 ≤ usesC l xs (bumpC (fun _ => 0) root) k := fun k => by
  rw [List.mem_filter]
  refine ⟨fun h => by have := h.2; simp at this; omega, fun h => ⟨hmem k h, by simp; omega⟩⟩
 generalize hshe : (xs.filter (fun x => !decide ((usesC l xs (bumpC (fun _ => 0) root) x : Int) < 2))) = sh at *
 rw [← nm_an sh hsh]
 generalize usesC l xs (bumpC (fun _ => 0) root) = U at *
 have hnm : ∀ k, k ∈ sh → ∃ j, sh[j]? = some k ∧ nmR sh 0 k = nameB (j + 1) ∧ j < 4096 := fun k hk => by
  obtain ⟨j, h1, h2⟩ := nmR_in sh 0 k hk
  refine ⟨j, h1, by rw [h2, Nat.zero_add], ?_⟩
  have := (List.getElem?_eq_some_iff.1 h1).1
  omega
 have hot : ∀ k, k ∉ sh → nmR sh 0 k = ⟨#[]⟩ := fun k hk => nmR_out sh 0 k hk
 have hms : ∀ k, nmR sh 0 k ≠ ⟨#[]⟩ → k ∈ sh := fun k hk => Decidable.byContradiction fun z => hk (hot k z)
 have hnode : ∀ k, 0 ≤ k → k < (l.length : Int) → NodeG l (rd_T45 l k) := fun k h0 h1 => hG.node (rd_mem l k h0 h1)
 refine ⟨fun k h0 h1 => ⟨(hnode k h0 h1).k1, (hnode k h0 h1).k6⟩, fun k h0 h1 => (hnode k h0 h1).text, fun k h0 h1 => (sizes_iff hs _ (rd_mem l k h0 h1)).1, fun k h0 h1 => hM _ (rd_mem l k h0 h1), fun k h0 h1 => (hnode k h0 h1).scal, fun k h0 h1 => (hnode k h0 h1).even, fun k h0 h1 h6 => ?_, fun k hk => ?_, fun k hk => ?_, fun k hk => ?_, fun k => ?_, fun k j he hk => ?_⟩
 ·
  have hN := hnode k h0 h1
  have hkb : keysB (rd_T45 l k).f0 (rd_T45 l k).f2 = evens (rd_T45 l k).f2 := by unfold keysB; rw [if_pos h6]
  have h7 := hN.nodup
  have h8 := hN.keys
  have h9 := hG.sole _ (rd_mem l k h0 h1)
  rw [hkb] at h7 h8 h9
  refine key_ok l U _ [] (hN.even h6) (fun j hj => ⟨?_, h8 j hj⟩) h7 (by simp)
  have h10 := h9 j hj
  have h11 := cntK_le l xs j hn hr
  rw [hU]
  omega
 ·
  obtain ⟨j, _, h2, _⟩ := hnm k ((hin k).2 hk)
  rw [h2]; exact nameB_ne _
 · exact hot k (fun z => by have := (hin k).1 z; omega)
 ·
  obtain ⟨j, _, h2, h3⟩ := hnm k (hms k hk)
  rw [h2]; exact name_name _ (by omega)
 ·
  by_cases z : k ∈ sh
  rotate_left
  · rw [hot k z]; decide
  obtain ⟨j, _, h2, h3⟩ := hnm k z
  rw [h2]
  have := name_size (j + 1) (by omega)
  omega
 ·
  obtain ⟨a, h1, h2, h3⟩ := hnm k (hms k hk)
  obtain ⟨b, h4, h5, h6⟩ := hnm j (hms j (he ▸ hk))
  rw [h2, h5] at he
  have hab := name_inj (a + 1) (b + 1) (by omega) (by omega) he
  have : a = b := by omega
  subst this
  rw [h1] at h4
  exact Option.some.inj h4
theorem pl_out : ∀ (L : List Int) (n : Nat) (F : Int → Option Int) (k : Int), k ∉ L → plG L n F k = F k
 | [], _, _, _, _ => rfl
 | a :: r, n, F, k, h => by
  rw [plG, pl_out r _ _ k (fun x => h (by simp [x])), if_neg (fun e => h (by simp [e]))]
theorem pl_at : ∀ (L : List Int) (n : Nat) (F : Int → Option Int) (i : Nat) (h : i < L.length), L.Nodup → plG L n F L[i] = some ((n + i : Nat) : Int)
 | a :: r, n, F, 0, h, hn => by
  rw [plG, List.getElem_cons_zero, pl_out r _ _ a (List.nodup_cons.1 hn).1, if_pos rfl]; rfl
 | a :: r, n, F, i + 1, h, hn => by
  rw [plG, List.getElem_cons_succ, pl_at r (n + 1) _ i (by simpa using h) (List.nodup_cons.1 hn).2, show n + 1 + i = n + (i + 1) by omega]
end Go.Proofs.YtnjcpoojgmpmeaaGreatDoor.Plug
namespace Go.Proofs.YtnjcpoojgmpmeaaGreatDoor.Pure
open RowKit YtnjcpoojgmpmeaaGreatDoor.PX YtnjcpoojgmpmeaaGreatDoor.Plug YtnjcpoojgmpmeaaGreatDoor.Graphs YtnjcpoojgmpmeaaGreatDoorW.PrintWords YtnjcpoojgmpmeaaGreatDoorW.PrintLast
set_option maxRecDepth 100000
theorem kids14b (l : List S45) (h : Opened.bulkL Opened.bulkNode l ≤ 1048576) : ∀ n ∈ l, n.f2.length ≤ 1048576 := by
 obtain ⟨h1, h2⟩ := Opened.nodes_bulk l
 intro m hm
 have := h1 m hm
 omega
theorem ints_same (xs : List Int) (hx : xs.length ≤ 1099511627776) : ∀ (d i K : Nat), xs.length = i + d → d + 1 ≤ K → grommetref01_Ints.l0 K xs xs (i : Int) = some true
 | 0, i, K, h, hK => by
  obtain ⟨K, rfl⟩ : ∃ k, K = k + 1 := ⟨K - 1, by omega⟩
  rw [grommetref01_Ints.l0, if_neg (by omega)]
 | d + 1, i, K, h, hK => by
  obtain ⟨K, rfl⟩ : ∃ k, K = k + 1 := ⟨K - 1, by omega⟩
  have e2 : wrap64 ((i : Int) + 1) = ((i + 1 : Nat) : Int) := by unfold wrap64; omega
  rw [grommetref01_Ints.l0, if_pos (by omega), if_pos (by omega), if_pos (by omega), if_pos rfl, e2]
  exact ints_same xs hx d (i + 1) K (by omega) (by omega)
theorem ints_f (xs : List Int) (hx : xs.length ≤ 1099511627776) (K : Nat) (hK : xs.length + 1 ≤ K) : grommetref01_Ints.f K xs xs = some true := by
 unfold grommetref01_Ints.f
 rw [if_pos rfl]
 exact ints_same xs hx xs.length 0 K (by omega) hK
theorem same12_l0 (c : List Nd) (hc : c.length ≤ 1099511627776) (B : Nat) (hB : B ≤ 1099511627776) (hk : ∀ n ∈ c, n.f2.length ≤ B) : ∀ (d i K : Nat), c.length = i + d → d + B + 2 ≤ K → grommetref12_Same.l0 K (i : Int) c 0 c 0 = some true
 | 0, i, K, h, hK => by
  obtain ⟨K, rfl⟩ : ∃ k, K = k + 1 := ⟨K - 1, by omega⟩
  rw [grommetref12_Same.l0, if_neg (by omega)]
 | d + 1, i, K, h, hK => by
  obtain ⟨K, rfl⟩ : ∃ k, K = k + 1 := ⟨K - 1, by omega⟩
  have e2 : wrap64 ((i : Int) + 1) = ((i + 1 : Nat) : Int) := by unfold wrap64; omega
  have hz := hk _ (rd_mem c (i : Int) (by omega) (by omega))
  rw [grommetref12_Same.l0, if_pos (by omega), if_pos (by omega), if_pos (by omega), if_pos rfl, if_pos rfl, ints_f _ (by omega) K (by omega), Option.bind_some, if_pos rfl, e2]
  exact same12_l0 c hc B hB hk d (i + 1) K (by omega) (by omega)
theorem same12 (c : List Nd) (hc : c.length ≤ 1099511627776) (B : Nat) (hB : B ≤ 1099511627776) (hk : ∀ n ∈ c, n.f2.length ≤ B) (K : Nat) (hK : c.length + B + 3 ≤ K) : grommetref12_Same.f K c 0 c 0 = some true := by
 obtain ⟨K, rfl⟩ : ∃ k, K = k + 1 := ⟨K - 1, by omega⟩
 unfold grommetref12_Same.f
 rw [if_pos rfl, show ((c.length : Int) != (c.length : Int)) = false by simp, grommetref12_Same.j0, if_neg (by decide)]
 exact same12_l0 c hc B hB hk c.length 0 K (by omega) (by omega)
theorem back_none (l : List Nd) (root : Int) (e : Int) (he : e ≠ 0) (h : layF l root = some (noTr, e)) : ∃ K, grommetlaw14_LayBack.f K l root = some true := by
 refine ⟨204, ?_⟩
 obtain ⟨b, hlg⟩ := large14 l root 204 (by omega)
 unfold grommetlaw14_LayBack.f
 rw [hlg, Option.bind_some]
 cases b with
 | true => rw [if_pos rfl, alive14]; rfl
 | false =>
  rw [if_neg (by decide)]
  unfold lay_Tree.f
  rw [h, Option.map_some, Option.bind_some]
  dsimp only
  rw [if_neg he, same_none 201, Option.bind_some, if_pos rfl, alive14]; rfl
theorem LayBack (l : List S45) (root : Int) (_hg : Opened.goodGraph (l, root)) (hbk : Opened.bulkGraph (l, root) ≤ 1048576) : ∃ K, grommetlaw14_LayBack.f K l root = some true := by
  have hb : Opened.bulkGraph (l, root) = Opened.bulkL Opened.bulkNode l + 2 := rfl
  have hs := sizes14 l (by omega)
  have hM := kids14b l (by omega)
  by_cases hr : rightB l root = true
  · have hG := (right_iff l root hs).1 hr
    have hkin : Kin l := fun n hn => (hG.node hn).range
    have hgl := hG.le
    obtain ⟨s0, xs, g1, g2, g3, g4, g5⟩ := go_some l hkin (l.length + 1) root 1 _ (go_start l.length) (by simp) hG.r0 hG.r1
    have gx : s0.2.1 = xs := by rw [g3]; rfl
    rw [gx] at g4 g5
    have hn := g2.nd
    have hrg := g2.rng
    have hle := g2.le
    rw [gx] at hn hrg hle
    obtain ⟨xs2, sh, t, s, hO, hS, hT, _, _⟩ := lay_right l root hs hG hkin (fun n hn => (hG.node hn).k6)
    have hO2 : graph_Order.f l root = some (xs, 0) := by
      unfold graph_Order.f
      rw [if_pos hs, if_pos hr, g1]
      simp [gx]
    rw [hO2] at hO
    obtain ⟨rfl, _⟩ := Prod.mk.inj (Option.some.inj hO)
    have hS2 : iso_Shared.f l root = some (xs.filter (fun x => !decide ((usesC l xs (bumpC (fun _ => 0) root) x : Int) < 2)), 0) := by
      unfold iso_Shared.f
      rw [hO2]
      dsimp only
      rw [if_neg (by simp), if_pos ⟨fun e => by rw [e] at g4; simp at g4, by omega, List.all_eq_true.2 (fun x hx => by have := hrg x hx; simp; omega)⟩]
    rw [hS2] at hS
    obtain ⟨hshe, _⟩ := Prod.mk.inj (Option.some.inj hS)
    have hlay : layF l root = some (if s.2.1 ≠ 0 then (noTr, s.2.1) else if 4096 < 1 + kidsL l xs then (noTr, 5) else (t, 0)) := by
      unfold layF
      rw [hO2, hS2]
      dsimp only
      rw [if_neg (by decide), hshe, hT]
    by_cases c1 : s.2.1 ≠ 0
    · rw [if_pos c1] at hlay
      exact back_none l root _ c1 hlay
    · have c2 : s.2.1 = 0 := Decidable.not_not.1 c1
      rw [if_neg c1] at hlay
      by_cases c3 : 4096 < 1 + kidsL l xs
      · rw [if_pos c3] at hlay
        exact back_none l root 5 (by decide) hlay
      · rw [if_neg c3] at hlay
        have hB := back_right l root xs hs hM hG hn hrg g4 g5 (by omega)
        rw [hshe] at hB
        obtain ⟨ext, _, q2, _, q4⟩ := lay_some l (anB sh) hkin (l.length + 1) root 0 [] _ t s (la_start l.length) hG.r0 hG.r1 hT c2
        obtain ⟨s1, b1, b2, b3⟩ := q2 _ 1 (go_start l.length) rfl
        rw [g1] at b1
        have hx : ext = xs := by
          have := Option.some.inj b1
          rw [← this, gx] at b2
          simpa using b2.symm
        subst hx
        have hP := q4 (usesC l ext (bumpC (fun _ => 0) root)) (fun _ => 0) (fun k hk => by simp at hk) (fun k => by
          rw [usesC_sum]
          unfold bumpC cntK
          simp)
        have hR : flow_Right.f t.f0 t.f1 t.f2 t.f3 = some true := by
          have := rgt_lay l (anB sh) _ hB t root [] ext 0 67 4096 hP (by decide) (by decide) (by decide) (by omega) (by decide)
          unfold flow_Right.f
          obtain ⟨t0, t1, t2, t3⟩ := t
          dsimp only
          rw [this]; rfl
        have hpos : ∀ (i : Nat) (h : i < ([] ++ ext).length), plO (plG ext 0 (fun _ => none)) ([] ++ ext)[i] = (i : Int) := fun i h => by
          simp only [List.nil_append] at h ⊢
          unfold plO
          rw [pl_at ext 0 _ i h hn, Nat.zero_add]; rfl
        obtain ⟨F', hC, _⟩ := comp_lay l (anB sh) _ hB (plO (plG ext 0 (fun _ => none))) t root [] ext 0 68 [] (fun _ => none) hP (by decide) (by decide) rfl (fun a i => ⟨fun z => (by cases z), fun ⟨_, k, hk, _⟩ => (by simp at hk)⟩) hpos (by simp; omega)
        have hCo : graph_Compose.f t.f0 t.f1 t.f2 t.f3 = some (cutL l (plO (plG ext 0 (fun _ => none))) ext, 0, 0) := by
          unfold graph_Compose.f compF
          obtain ⟨t0, t1, t2, t3⟩ := t
          dsimp only at hR hC ⊢
          rw [hR]
          dsimp only
          rw [if_neg (by decide), hC, Option.map_some, Option.map_some]
          simp only [List.nil_append]
          rw [if_neg (by decide)]
          rfl
        have hCa : graph_Canon.f l root = some (cutL l (plO (plG ext 0 (fun _ => none))) ext, 0, 0) := by
          unfold graph_Canon.f
          rw [if_pos hs, if_pos hr, g1, Option.map_some, gx]
        have hcl : (cutL l (plO (plG ext 0 (fun _ => none))) ext).length ≤ 4096 := by simp [cutL]; omega
        have hck : ∀ n ∈ cutL l (plO (plG ext 0 (fun _ => none))) ext, n.f2.length ≤ 1048576 := fun n hn2 => by
          obtain ⟨a, ha, rfl⟩ := List.mem_map.1 hn2
          have := hM _ (rd_mem l a (hrg a ha).1 (hrg a ha).2)
          simpa using this
        refine ⟨1048576 + 4096 + 300, ?_⟩
        obtain ⟨b, hlg⟩ := large14 l root (1048576 + 4096 + 300) (by omega)
        unfold grommetlaw14_LayBack.f
        rw [hlg, Option.bind_some]
        cases b with
        | true => rw [if_pos rfl, alive14]; rfl
        | false =>
          rw [if_neg (by decide)]
          unfold lay_Tree.f
          rw [hlay, Option.map_some, Option.bind_some]
          dsimp only
          rw [if_pos rfl, hCo, Option.bind_some, hCa, Option.bind_some, hR, Option.bind_some]
          dsimp only
          rw [if_pos rfl, if_pos rfl, if_pos rfl, same12 _ (by omega) 1048576 (by decide) hck _ (by omega), Option.bind_some, if_pos rfl, alive14]; rfl
  · have hr' : rightB l root = false := Bool.eq_false_iff.2 hr
    have hO : graph_Order.f l root = some ([], 1) := by unfold graph_Order.f; rw [if_pos hs, if_neg hr]
    have hS : iso_Shared.f l root = some ([], 1) := by unfold iso_Shared.f; rw [hO]; rfl
    have hlay : layF l root = some (noTr, 1) := by unfold layF; rw [hO, hS]; rfl
    exact back_none l root 1 (by decide) hlay
end Go.Proofs.YtnjcpoojgmpmeaaGreatDoor.Pure

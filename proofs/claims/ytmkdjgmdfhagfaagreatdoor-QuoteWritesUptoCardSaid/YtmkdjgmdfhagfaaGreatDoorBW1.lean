/- Texts that stand behind one another, laid into one: functions of the program and of its reference, what each comes to, and plain laws of that. -/
import Derived.Test.YtmkdjgmdfhagfaaGreatDoorBW0
import Derived.Test.YtmkdjgmdfhagfaaGreatDoorWMore
import Derived.Test.YtmkdjgmdfhagfaaGreatDoorWLast
import Derived.Test.YtmkdjgmdfhagfaaGreatDoorWWords
import Derived.Lib.SlTrimSet
import Derived.Shelf.Strings.SlTrimAscii
import Derived.Lib.AppendIntMem
import Derived.Test.YtmkdjgmdfhagfaaGreatDoorProg
import Derived.Lib.OthersKept
import Derived.Lib.FrozenHead2
import Derived.Lib.RuneBytes
import Derived.Lib.Walk
import Derived.Lib.UnsafeStr
import Derived.Lib.AppendStr
import Derived.Lib.Hide
import Derived.WalkKit
import Derived.WalkSmall
import Derived.RowKit
import Derived.KernelRfl
import Derived.Laws.Externs
import Derived.Laws.IdiomCopy
import Derived.Laws.BitsLemmas
import Derived.Lib.DecodeNEq
import Derived.Lib.Strings
import Derived.Lib.MapLaws
import Derived.Deep.LoopGhost
import Derived.Outline
import Derived.Lib.ConvBytes
import Derived.Lib.AtoiErrMem
import Derived.Laws.Strings3
import Derived.Laws.Closers25
import Derived.Laws.Closers25b
import Derived.Laws.BitsAllLaws
/- YtmkdjgmdfhagfaaGreatDoorFGrommetref07Double: what print.py told of Go functions, for this claim. -/
namespace Go.Proofs.YtmkdjgmdfhagfaaGreatDoor.PX
open Go.RowKit Go.Proofs.YtmkdjgmdfhagfaaGreatDoorW.PrintWords Go.Proofs.YtmkdjgmdfhagfaaGreatDoorW.PrintLast Go.Proofs.YtmkdjgmdfhagfaaGreatDoorW.PrintMore Go.Proofs.YtmkdjgmdfhagfaaGreatDoor
attribute [local go_sem] max2_int min2_int max_two min_two max_three min_three max_four min_four   -- for this text's walks alone
set_option linter.unusedVariables false
set_option linter.unusedSimpArgs false

/-! ### grommetref07_Double: function 13 -/
def grommetref07_Double.l0 : Nat → List Int → List Int → Int → Option (ByteArray × Int)
  | 0, _, _, _ => none
  | k + 1, x4, x6, x7 => if x7 < (x4.length : Int) then (if 0 ≤ x7 then ((grommetref07_escaped.f k (rd x4 x7)).bind fun t108 => (if x6.length + t108.size < 140737488355328 then (grommetref07_Double.l0 k x4 (x6 ++ bytesOf t108) (wrap64 (x7 + 1))) else (none))) else (none)) else (if 1 + (strOfNums x6).size ≤ 9223372036854775807 then (if ((⟨#[34]⟩ : ByteArray) ++ (strOfNums x6)).size + 1 ≤ 9223372036854775807 then (some (((⟨#[34]⟩ : ByteArray) ++ (strOfNums x6)) ++ (⟨#[34]⟩ : ByteArray), 0)) else (none)) else (none))
def grommetref07_Double.f (k : Nat) (a0 : ByteArray) : Option (ByteArray × Int) := (grommetref01_Decode.f k a0).bind fun bt101 => (if bt101.2.1 = 0 then (grommetref07_Double.l0 k bt101.1 ([] : List Int) 0) else (some ((⟨#[]⟩ : ByteArray), 8)))
theorem grommetref07_Double.mono_l : ∀ k, (∀ y0 y1 y2, LeO (grommetref07_Double.l0 k y0 y1 y2) (grommetref07_Double.l0 (k + 1) y0 y1 y2))
  | 0 => fun _ _ _ r h => by simp [grommetref07_Double.l0] at h
  | k + 1 => by
    have ih0 := grommetref07_Double.mono_l k
    · intro y0 y1 y2
      unfold grommetref07_Double.l0
      repeat' first
      | (with_reducible exact ih0 _ _ _)
      | (with_reducible exact grommetref01_Decode.mono _ _)
      | (with_reducible exact grommetref07_escaped.mono _ _)
      | (with_reducible exact LeO.refl _)
      | (with_reducible exact LeO.none _)
      | (with_reducible refine LeO.ite ?_ ?_)
      | (with_reducible refine LeO.bind ?_ (fun _ => ?_))
      | exact ih0 _ _ _
      | exact grommetref01_Decode.mono _ _
      | exact grommetref07_escaped.mono _ _
      | exact LeO.none _
      | refine LeO.ite ?_ ?_
      | refine LeO.bind ?_ (fun _ => ?_)
theorem grommetref07_Double.mono : ∀ a0 k, LeO (grommetref07_Double.f k a0) (grommetref07_Double.f (k + 1) a0) := by
  intro a0 k
  have ih0 := grommetref07_Double.mono_l k
  unfold grommetref07_Double.f
  repeat' first
      | (with_reducible exact ih0 _ _ _)
      | (with_reducible exact grommetref01_Decode.mono _ _)
      | (with_reducible exact grommetref07_escaped.mono _ _)
      | (with_reducible exact LeO.refl _)
      | (with_reducible exact LeO.none _)
      | (with_reducible refine LeO.ite ?_ ?_)
      | (with_reducible refine LeO.bind ?_ (fun _ => ?_))
      | exact ih0 _ _ _
      | exact grommetref01_Decode.mono _ _
      | exact grommetref07_escaped.mono _ _
      | exact LeO.none _
      | refine LeO.ite ?_ ?_
      | refine LeO.bind ?_ (fun _ => ?_)
set_option maxHeartbeats 8000000 in
set_option maxRecDepth 100000 in
theorem grommetref07_Double.calls (k : Nat) (a0 : ByteArray) (r1 : ByteArray) (r2 : Int) (w : World) (hG : Glob.G w) (h : grommetref07_Double.f k a0 = some (r1, r2)) :
    Calls Tryz.prog 13 #[.string a0] w fun e w' => e = .returned (.tuple #[.string r1, .int .i64 r2]) ∧ Below w.heap.size w w' := by
  have hu38 := Tryz.underlying38
  have HB := Aside0.mk (Below.refl w.heap.size w)
  have H : ((grommetref01_Decode.f k a0).bind fun bt101 => (if bt101.2.1 = 0 then (grommetref07_Double.l0 k bt101.1 ([] : List Int) 0) else (some ((⟨#[]⟩ : ByteArray), 8)))) = some (r1, r2) := h
  clear h
  replace H := Option.bind_eq_some_iff.mp H
  obtain ⟨⟨t101, t104, t105⟩, A20, H⟩ := H
  replace H : (if t104 = 0 then (grommetref07_Double.l0 k t101 ([] : List Int) 0) else (some ((⟨#[]⟩ : ByteArray), 8))) = some (r1, r2) := H
  have A2 := Aside0.mk A20
  clear A20
  by_cases c3 : t104 = 0
  · rw [if_pos c3] at H
    have c3b0 : (t104 == 0) = true := beq_iff_eq.mpr c3
    have c3b1 : (t104 != 0) = false := bne_eq_false_iff_eq.mpr c3
    clear c3
    have H' := Aside0.mk H
    clear H
    go_enter Tryz.func13, Tryz.ntmps13
    go_wp2_with (first | ((with_reducible refine gate_callee (f := 33) rfl ?_); refine goesL_ (some 10) rfl rfl Tryz.func33 (by kernel_rfl) rfl #[.string a0] rfl (by (try simp only [List.map_toArray, List.map_cons, List.map_nil]); first | done | rfl | (simp only [List.length_drop, List.length_take]; rfl)) ?_; (with_reducible refine (grommetref01_Decode.calls k a0 t101 t104 t105 _ (hG.below (by first | ((repeat (first | (with_reducible first | exact HB.out | apply below_alloc | apply pw_below_drewN | apply below_drew1 | (refine Glob.below_set ?_ (by assumption) _ _ _)) | exact HB.out)); done) | (refine Drawn0.below ?_; repeat (first | exact Drawn0.refl _ | assumption | apply Drawn0.step)))) A2.out).mono ?_); rintro e w4 ⟨v102, rfl, ho0, hb⟩; refine ⟨_, rfl, ?_⟩; have n0_ := Aside0.mk (Kd.R_lower ho0 (below_size (by repeat (first | (with_reducible first | exact HB.out | apply below_alloc | apply pw_below_drewN | apply below_drew1) | exact HB.out)))); have n1_ := Aside0.mk (below_step (by repeat (first | (with_reducible first | exact HB.out | apply below_alloc | apply pw_below_drewN | apply below_drew1) | exact HB.out)) hb); clear HB; have HO103 := n0_; have HB := n1_; clear n0_ n1_; (try clear hb); (try clear hb2); (try clear hk); (try clear hi); (try clear ho0)) | ((with_reducible refine gate_dst (N := 5) rfl ?_); refine box_event ?hg (N := 5) ?hd (cs := #[.int .i64 0, .int .i64 0]) (t := 38) ?hr ?_; (case hd => rfl); (case hg => rfl); (case hr => first | (go_simp; done) | (go_simp; rfl)); intro gb106 hg w5 hbox hb; have n0_ := Aside0.mk (Kd.R_below (by (with_reducible repeat (first | apply Kd.R_alloc | apply Kd.R_drewN | apply Kd.R_drew)); exact HO103.out) hb); have n1_ := Aside0.mk (below_step (by repeat (first | (with_reducible first | exact HB.out | apply below_alloc | apply pw_below_drewN | apply below_drew1) | exact HB.out)) hb); have n2_ := Aside0.mk (hbox); have n3_ := Aside0.mk ((by rw [hg]; exact (below_size (by repeat (first | (with_reducible first | exact HB.out | apply below_alloc | apply pw_below_drewN | apply below_drew1) | exact HB.out))) : w.heap.size ≤ gb106)); have n4_ := Aside0.mk ((by rw [hg]; exact (below_size (by repeat (first | (with_reducible first | exact HB.out | apply below_alloc | apply pw_below_drewN | apply below_drew1) | exact HB.out))) : w.heap.size ≤ gb106)); clear HO103; clear HB; have HO103 := n0_; have HB := n1_; have BK106 := n2_; have GW106 := n3_; have GE106 := n4_; clear n0_ n1_ n2_ n3_ n4_; clear hb hbox hg; have hcz6_0 : w5.cell? ⟨gb106, 0, none⟩ = some (.int .i64 0) := (blk_cell BK106.out 0).trans rfl; have hcz6_1 : w5.cell? ⟨gb106, 1, none⟩ = some (.int .i64 0) := (blk_cell BK106.out 1).trans rfl; have hfz6_0 := blk_frozen BK106.out 0; have hfz6_1 := blk_frozen BK106.out 1))
    go_loopg [6, 7] k (fun kq v6 v7 w' => ∃ (x6_1 : List Int) (x7_1 : Int), v7 = .int .i64 x7_1 ∧ Aside0 (grommetref07_Double.l0 kq t101 x6_1 x7_1 = some (r1, r2)) ∧ Aside0 (kq ≤ k) ∧ Aside0 (Kd.R (Kd.int .i64) 3 w' w.heap.size (fun _ => True) v102 t101) ∧ Aside0 (Kd.R (Kd.int .u8) 5 w' w.heap.size (fun _ => True) v6 x6_1) ∧ Aside0 (w'.heap[gb106]? = some (.cells #[.int .i64 t104, .int .i64 t105] 38 (0, 0))) ∧ Aside0 (Below w.heap.size w w'))
    case atStart => exact ⟨(([] : List Int)), (0), (by first | rfl | (simp; done) | (simp [*]; done)), H', ⟨Nat.le_refl _⟩, ⟨by (with_reducible repeat (first | apply Kd.R_alloc | apply Kd.R_drewN | apply Kd.R_drew)); exact Kd.R_mono (Kd.R_far (p := ⟨gb106, 1, none⟩) (Kd.R_far (p := ⟨gb106, 0, none⟩) (Kd.R_types HO103.out BK106.out (by decide)) (fun _ hk => hk.2) (.int .i64 t104)) (fun _ hk => hk.2) (.int .i64 t105)) (fun _ hk => trivial)⟩, ⟨by first | exact Kd.R_nil _ _ _ _ _ | exact Kd.N_nil _ _ _ _ _ | exact Kd.V_nil _ _ _ _ _ | exact Kd.Q_nil _ _ _ _ _ | exact Kd.S_nil _ _ _ _ _⟩, ⟨by (with_reducible repeat (first | refine blk_drewN ?_ _ | refine blk_drew ?_ | refine blk_alloc ?_ _)); refine blk_put (cs := #[.int .i64 t104, .int .i64 0]) ?_ 1 _ rfl; (with_reducible repeat (first | refine blk_drewN ?_ _ | refine blk_drew ?_ | refine blk_alloc ?_ _)); refine blk_put (cs := #[.int .i64 0, .int .i64 0]) ?_ 0 _ rfl; (with_reducible repeat (first | refine blk_drewN ?_ _ | refine blk_drew ?_ | refine blk_alloc ?_ _)); exact BK106.out⟩, ⟨by repeat (first | (with_reducible first | exact HB.out | apply below_alloc | apply pw_below_drewN | apply below_drew1 | refine below_set ?_ GE106.out) | exact HB.out)⟩⟩
    case round =>
      clear H'
      try clear c1
      try clear p2
      try clear c3
      try clear c3b0
      try clear c3b1
      try clear hcz6_0
      try clear hcz6_1
      try clear hfz6_0
      try clear hfz6_1
      obtain ⟨x6_1, x7_1, rfl, HA, HK1, HO_4, HO_6, BK106, HB⟩ := hrel
      cases gk with
      | zero => exact absurd HA.out (by simp [grommetref07_Double.l0])
      | succ k1 =>
        have H := HA.out
        clear HA
        simp only [grommetref07_Double.l0] at H
        by_cases c7 : x7_1 < (t101.length : Int)
        · rw [if_pos c7] at H
          have c7b0 : decide (x7_1 < (t101.length : Int)) = true := decide_eq_true c7
          clear c7
          by_cases c8 : 0 ≤ x7_1
          · rw [if_pos c8] at H
            have c8b0 : decide (0 ≤ x7_1) = true := decide_eq_true c8
            clear c8
            replace H := Option.bind_eq_some_iff.mp H
            obtain ⟨t108, A90, H⟩ := H
            replace H : (if x6_1.length + t108.size < 140737488355328 then (grommetref07_Double.l0 k1 t101 (x6_1 ++ bytesOf t108) (wrap64 (x7_1 + 1))) else (none)) = some (r1, r2) := H
            have A9 := Aside0.mk A90
            clear A90
            by_cases c10 : x6_1.length + t108.size < 140737488355328
            · rw [if_pos c10] at H
              have LMc10 := Aside0.mk c10
              clear c10
              obtain ⟨y109, hy109⟩ : ∃ y_ : List Int, y_ = (x6_1 ++ bytesOf t108) := ⟨_, rfl⟩
              replace H : (grommetref07_Double.l0 k1 t101 y109 (wrap64 (x7_1 + 1))) = some (r1, r2) := by first | (rw [hy109]; with_reducible exact H) | (have H2_ := (Option.bind_some _ _).symm.trans H; rw [hy109]; with_reducible exact H2_) | (have H2_ := (Option.bind_some _ _).symm.trans H; with_reducible exact H2_) | with_reducible exact H | (rw [hy109]; exact H) | exact H
              have Ny109 := Aside0.mk hy109
              clear hy109
              have H' := Aside0.mk H
              clear H
              obtain ⟨Ao11, co11, eo11⟩ := Kd.R_slice HO_4.out
              subst eo11
              have p107 : 0 ≤ (x7_1 : Int) := of_decide_eq_true (by first | (with_reducible assumption) | assumption)
              have q107 : x7_1 < (t101.length : Int) := of_decide_eq_true (by first | (with_reducible assumption) | assumption)
              obtain ⟨ad107, e107, hx107_0⟩ := Kd.at_int (Kd.R_reads' HO_4.out).2.2 x7_1 p107 q107
              cases e107
              replace p107 := eq_true p107
              replace q107 := eq_true q107
              go_wp2_with (first | ((with_reducible refine gate_callee (f := 34) rfl ?_); refine goesL_ (some 27) rfl rfl Tryz.func34 (by kernel_rfl) rfl #[.int .i64 (rd t101 x7_1)] rfl (by (try simp only [List.map_toArray, List.map_cons, List.map_nil]); first | done | rfl | (simp only [List.length_drop, List.length_take]; rfl)) ?_; (with_reducible refine (grommetref07_escaped.calls k1 (rd t101 x7_1) t108 _ (hG.below (by first | ((repeat (first | (with_reducible first | exact HB.out | apply below_alloc | apply pw_below_drewN | apply below_drew1 | (refine Glob.below_set ?_ (by assumption) _ _ _)) | exact HB.out)); done) | (refine Drawn0.below ?_; repeat (first | exact Drawn0.refl _ | assumption | apply Drawn0.step)))) A9.out).mono ?_); rintro e w12 ⟨rfl, hb⟩; refine ⟨_, rfl, ?_⟩; have n0_ := Aside0.mk (Kd.R_below (by (with_reducible repeat (first | apply Kd.R_alloc | apply Kd.R_drewN | apply Kd.R_drew)); exact HO_4.out) hb); have n1_ := Aside0.mk (Kd.R_below (by (with_reducible repeat (first | apply Kd.R_alloc | apply Kd.R_drewN | apply Kd.R_drew)); exact HO_6.out) hb); have n2_ := Aside0.mk (blk_below (g := gb106) (o := .cells #[.int .i64 t104, .int .i64 t105] 38 (0, 0)) (by (with_reducible repeat (first | refine blk_drewN ?_ _ | refine blk_drew ?_ | refine blk_alloc ?_ _)); exact BK106.out) hb); have n3_ := Aside0.mk (below_step (by repeat (first | (with_reducible first | exact HB.out | apply below_alloc | apply pw_below_drewN | apply below_drew1 | refine below_set ?_ GE106.out) | exact HB.out)) hb); clear HO_4; clear HO_6; clear BK106; clear HB; have HO_4 := n0_; have HO_6 := n1_; have BK106 := n2_; have HB := n3_; clear n0_ n1_ n2_ n3_; (try clear hb); (try clear hb2); (try clear hk); (try clear hi)) | (at_builtin; refine print_append_str (w0 := w) w.heap.size rfl (.tmp 22) _ 58 9 5 rfl Tryz.underlying58 Tryz.underlying9 info5 u6 x6_1 t108 rfl rfl ?aO ?aB ?aS ?aL ?_; (case aB => exact (by repeat (first | (with_reducible first | exact HB.out | apply below_alloc | apply pw_below_drewN | apply below_drew1 | refine below_set ?_ GE106.out) | exact HB.out))); (case aO => exact (Kd.own_of_R (by (with_reducible repeat (first | apply Kd.R_alloc | apply Kd.R_drewN | apply Kd.R_drew)); exact HO_6.out))); (case aS => exact (below_size (by repeat (first | (with_reducible first | exact HB.out | apply below_alloc | apply pw_below_drewN | apply below_drew1 | refine below_set ?_ GE106.out) | exact HB.out)))); (case aL => have := LMc10.out; omega); intro v110 w13 ho0 hb hg; have ho := Kd.R_of_own (h1 := fun _ => rfl) (ok := fun _ => True) ho0 (fun _ _ => trivial); clear ho0; have hat := True.intro; rw [← Ny109.out] at ho; change Kd.R (Kd.int .u8) 5 w13 w.heap.size (fun _ => True) v110 y109 at ho; have n0_ := Aside0.mk (Kd.R_over' (by (with_reducible repeat (first | apply Kd.R_alloc | apply Kd.R_drewN | apply Kd.R_drew)); exact HO_4.out) (Kd.R_typed (by (with_reducible repeat (first | apply Kd.R_alloc | apply Kd.R_drewN | apply Kd.R_drew)); exact HO_6.out)) (by decide) hg); have n1_ := Aside0.mk (blk_grown (g := gb106) (o := .cells #[.int .i64 t104, .int .i64 t105] 38 (0, 0)) (by (with_reducible repeat (first | refine blk_drewN ?_ _ | refine blk_drew ?_ | refine blk_alloc ?_ _)); exact BK106.out) hg (Kd.R_ne HO_6.out BK106.out (by decide))); have n2_ := Aside0.mk (hb); have n3_ := Aside0.mk (ho); clear HO_4; clear BK106; clear HB; clear HO_6; have HO_4 := n0_; have BK106 := n1_; have HB := n2_; have HO111 := n3_; clear n0_ n1_ n2_ n3_; clear ho hb hg hat))
              go_roundg k1
              case measure => have := HK1.out; omega
              case rel => exact ⟨(y109), (wrap64 (x7_1 + 1)), (by first | rfl | (simp; done) | (simp [*]; done)), H', ⟨by have := HK1.out; omega⟩, ⟨by (with_reducible repeat (first | apply Kd.R_alloc | apply Kd.R_drewN | apply Kd.R_drew)); exact HO_4.out⟩, ⟨by (with_reducible repeat (first | apply Kd.R_alloc | apply Kd.R_drewN | apply Kd.R_drew)); exact HO111.out⟩, ⟨by (with_reducible repeat (first | refine blk_drewN ?_ _ | refine blk_drew ?_ | refine blk_alloc ?_ _)); exact BK106.out⟩, ⟨by repeat (first | (with_reducible first | exact HB.out | apply below_alloc | apply pw_below_drewN | apply below_drew1 | refine below_set ?_ GE106.out) | exact HB.out)⟩⟩
            · rw [if_neg c10] at H
              exact absurd H (by simp)
          · rw [if_neg c8] at H
            exact absurd H (by simp)
        · rw [if_neg c7] at H
          have c7b0 : decide (x7_1 < (t101.length : Int)) = false := decide_eq_false c7
          clear c7
          by_cases c14 : 1 + (strOfNums x6_1).size ≤ 9223372036854775807
          · rw [if_pos c14] at H
            have c14b0 := eq_true c14
            have c14b1 : decide (1 + (strOfNums x6_1).size ≤ 9223372036854775807) = true := decide_eq_true c14
            try have c14b2 : (9223372036854775807 < 1 + (strOfNums x6_1).size) = False := eq_false (Nat.not_lt.2 c14)
            by_cases c15 : ((⟨#[34]⟩ : ByteArray) ++ (strOfNums x6_1)).size + 1 ≤ 9223372036854775807
            · rw [if_pos c15] at H
              have c15b0 := eq_true c15
              have c15b1 : decide (((⟨#[34]⟩ : ByteArray) ++ (strOfNums x6_1)).size + 1 ≤ 9223372036854775807) = true := decide_eq_true c15
              try have c15b2 : (9223372036854775807 < ((⟨#[34]⟩ : ByteArray) ++ (strOfNums x6_1)).size + 1) = False := eq_false (Nat.not_lt.2 c15)
              try (have c15n_ : (9223372036854775807 < 1 + (strOfNums x6_1).size + 1) = False := (by have z_ := c15; rw [ByteArray.size_append] at z_; exact eq_false (Nat.not_lt.2 z_)))
              simp only [Option.some.injEq, Prod.mk.injEq] at H
              obtain ⟨rfl, rfl⟩ := H
              obtain ⟨Ao16, co16, eo16⟩ := Kd.R_slice HO_4.out
              subst eo16
              have hcv17 := own_string (P := Tryz.prog) Tryz.underlying58 Tryz.underlying5 Tryz.underlying9 (Kd.own_of_R HO_6.out)
              have hcv17d_ := fun n_ : Nat => own_string (P := Tryz.prog) Tryz.underlying58 Tryz.underlying5 Tryz.underlying9 (Kd.own_of_R (Kd.R_drewN HO_6.out n_))
              go_wp2
              go_ret2
              exact ⟨by first | rfl | (simp [errW_none, errW_some] <;> rfl) | (simp [*, errW_none, errW_some] <;> rfl), by repeat (first | (with_reducible first | exact HB.out | apply below_alloc | apply pw_below_drewN | apply below_drew1 | refine below_set ?_ GE106.out) | exact HB.out)⟩
            · rw [if_neg c15] at H
              exact absurd H (by simp)
          · rw [if_neg c14] at H
            exact absurd H (by simp)
  · rw [if_neg c3] at H
    have c3b0 : (t104 == 0) = false := beq_eq_false_iff_ne.mpr c3
    have c3b1 : (t104 != 0) = true := bne_iff_ne.mpr c3
    simp only [Option.some.injEq, Prod.mk.injEq] at H
    obtain ⟨rfl, rfl⟩ := H
    go_enter Tryz.func13, Tryz.ntmps13
    go_wp2_with (first | ((with_reducible refine gate_callee (f := 33) rfl ?_); refine goesL_ (some 10) rfl rfl Tryz.func33 (by kernel_rfl) rfl #[.string a0] rfl (by (try simp only [List.map_toArray, List.map_cons, List.map_nil]); first | done | rfl | (simp only [List.length_drop, List.length_take]; rfl)) ?_; (with_reducible refine (grommetref01_Decode.calls k a0 t101 t104 t105 _ (hG.below (by first | ((repeat (first | (with_reducible first | exact HB.out | apply below_alloc | apply pw_below_drewN | apply below_drew1 | (refine Glob.below_set ?_ (by assumption) _ _ _)) | exact HB.out)); done) | (refine Drawn0.below ?_; repeat (first | exact Drawn0.refl _ | assumption | apply Drawn0.step)))) A2.out).mono ?_); rintro e w18 ⟨v102, rfl, ho0, hb⟩; refine ⟨_, rfl, ?_⟩; have n0_ := Aside0.mk (Kd.R_lower ho0 (below_size (by repeat (first | (with_reducible first | exact HB.out | apply below_alloc | apply pw_below_drewN | apply below_drew1) | exact HB.out)))); have n1_ := Aside0.mk (below_step (by repeat (first | (with_reducible first | exact HB.out | apply below_alloc | apply pw_below_drewN | apply below_drew1) | exact HB.out)) hb); clear HB; have HO103 := n0_; have HB := n1_; clear n0_ n1_; (try clear hb); (try clear hb2); (try clear hk); (try clear hi); (try clear ho0)) | ((with_reducible refine gate_dst (N := 5) rfl ?_); refine box_event ?hg (N := 5) ?hd (cs := #[.int .i64 0, .int .i64 0]) (t := 38) ?hr ?_; (case hd => rfl); (case hg => rfl); (case hr => first | (go_simp; done) | (go_simp; rfl)); intro gb106 hg w19 hbox hb; have n0_ := Aside0.mk (Kd.R_below (by (with_reducible repeat (first | apply Kd.R_alloc | apply Kd.R_drewN | apply Kd.R_drew)); exact HO103.out) hb); have n1_ := Aside0.mk (below_step (by repeat (first | (with_reducible first | exact HB.out | apply below_alloc | apply pw_below_drewN | apply below_drew1) | exact HB.out)) hb); have n2_ := Aside0.mk (hbox); have n3_ := Aside0.mk ((by rw [hg]; exact (below_size (by repeat (first | (with_reducible first | exact HB.out | apply below_alloc | apply pw_below_drewN | apply below_drew1) | exact HB.out))) : w.heap.size ≤ gb106)); have n4_ := Aside0.mk ((by rw [hg]; exact (below_size (by repeat (first | (with_reducible first | exact HB.out | apply below_alloc | apply pw_below_drewN | apply below_drew1) | exact HB.out))) : w.heap.size ≤ gb106)); clear HO103; clear HB; have HO103 := n0_; have HB := n1_; have BK106 := n2_; have GW106 := n3_; have GE106 := n4_; clear n0_ n1_ n2_ n3_ n4_; clear hb hbox hg; have hcz20_0 : w19.cell? ⟨gb106, 0, none⟩ = some (.int .i64 0) := (blk_cell BK106.out 0).trans rfl; have hcz20_1 : w19.cell? ⟨gb106, 1, none⟩ = some (.int .i64 0) := (blk_cell BK106.out 1).trans rfl; have hfz20_0 := blk_frozen BK106.out 0; have hfz20_1 := blk_frozen BK106.out 1))
    go_ret2
    exact ⟨by first | rfl | (simp [errW_none, errW_some] <;> rfl) | (simp [*, errW_none, errW_some] <;> rfl), by repeat (first | (with_reducible first | exact HB.out | apply below_alloc | apply pw_below_drewN | apply below_drew1 | refine below_set ?_ GE106.out) | exact HB.out)⟩

end Go.Proofs.YtmkdjgmdfhagfaaGreatDoor.PX

/- Library functions by hand, in the form in which the printed functions are told: the decoder of one sign, the trimming and seeking of bytes, a number's text. -/
namespace Go.Proofs.YtmkdjgmdfhagfaaGreatDoor.Plug
open Go.RowKit Go.Proofs.YtmkdjgmdfhagfaaGreatDoor Go.Proofs.YtmkdjgmdfhagfaaGreatDoorW.PrintWords Go.Proofs.YtmkdjgmdfhagfaaGreatDoorW.PrintLast

def utf8_DecodeRuneInString.f (a0 : ByteArray) : Option (Int × Int) := some (((Lib.decodeGo a0).1 : Int), ((Lib.decodeGo a0).2 : Int))
theorem utf8_DecodeRuneInString.calls (a0 : ByteArray) (r1 r2 : Int) (w : World) (hG : Glob.G w) (h : utf8_DecodeRuneInString.f a0 = some (r1, r2)) :
    Calls Tryz.prog 65 #[.string a0] w fun e w' => e = .returned (.tuple #[.int .i32 r1, .int .i64 r2]) ∧ Below w.heap.size w w' := by
  simp only [utf8_DecodeRuneInString.f, Option.some.injEq, Prod.mk.injEq] at h
  obtain ⟨rfl, rfl⟩ := h
  exact Tryz.utf8_DecodeRuneInString a0 w hG.utf

def strings_IndexByte.f (a0 : ByteArray) (a1 : Int) : Option Int := some (Lib.indexByte a0.data.toList a1.toNat.toUInt8)
theorem strings_IndexByte.calls (a0 : ByteArray) (a1 : Int) (r : Int) (w : World) (_hG : Glob.G w) (h : strings_IndexByte.f a0 a1 = some r) :
    Calls Tryz.prog 163 #[.string a0, .int .u8 a1] w fun e w' => e = .returned (.int .i64 r) ∧ Drawn0 w w' := by
  simp only [strings_IndexByte.f, Option.some.injEq] at h
  subst h
  exact (Tryz.strings_IndexByte a0 a1 w).mono fun e w' ⟨he, hw⟩ => ⟨he, by rw [hw]; exact Drawn0.refl _⟩

def asciiB (cs : List UInt8) : Bool := cs.all fun b => decide (b.toNat < 128)
theorem info_set : (Tryz.prog.info? (Tryz.lays160_ren.t 116)).map (fun i => (i.zero, i.size)) = some (some (.agg (Array.replicate 256 (.bool false))), 256) := by kernel_rfl

def strings_Trim.f (a0 a1 : ByteArray) : Option ByteArray :=
  if a0.size ≤ 9223372036854775807 ∧ a1.size < 4294967281 ∧ asciiB a1.data.toList = true then some ⟨(Lib.trimS a0.data.toList a1.data.toList).toArray⟩ else none
theorem strings_Trim.calls (a0 a1 : ByteArray) (r : ByteArray) (w : World) (_hG : Glob.G w) (h : strings_Trim.f a0 a1 = some r) :
    Calls Tryz.prog 71 #[.string a0, .string a1] w fun e w' => e = .returned (.string r) ∧ Below w.heap.size w w' := by
  unfold strings_Trim.f at h
  by_cases c : a0.size ≤ 9223372036854775807 ∧ a1.size < 4294967281 ∧ asciiB a1.data.toList = true
  · rw [if_pos c] at h
    obtain rfl := Option.some.inj h
    exact Any.strings_Trim_laid Tryz.lays160 info_set a0 a1 w c.1 c.2.1 (ascii_of_all c.2.2)
  · rw [if_neg c] at h; cases h


def strconv_Itoa.f (a0 : Int) : Option ByteArray := if -9223372036854775808 ≤ a0 ∧ a0 ≤ 9223372036854775807 then some ⟨(Lib.itoa a0).toArray⟩ else none
theorem strconv_Itoa.calls (a0 : Int) (r : ByteArray) (w : World) (hG : Glob.G w) (h : strconv_Itoa.f a0 = some r) :
    Calls Tryz.prog 40 #[.int .i64 a0] w fun e w' => e = .returned (.string r) ∧ Below w.heap.size w w' := by
  unfold strconv_Itoa.f at h
  by_cases c : -9223372036854775808 ≤ a0 ∧ a0 ≤ 9223372036854775807
  · rw [if_pos c] at h
    obtain rfl := Option.some.inj h
    exact (Tryz.strconv_Itoa a0 c.1 c.2 w hG.pow).mono fun e w' ⟨he, k, os, hw⟩ => ⟨he, by rw [hw]; exact Lib.below_grow _ _ (Nat.le_refl _) _ _⟩
  · rw [if_neg c] at h; cases h

end Go.Proofs.YtmkdjgmdfhagfaaGreatDoor.Plug

/- YtmkdjgmdfhagfaaGreatDoorFUtfFirst: what print.py told of Go functions, for this claim. -/
namespace Go.Proofs.YtmkdjgmdfhagfaaGreatDoor.PX
open Go.RowKit Go.Proofs.YtmkdjgmdfhagfaaGreatDoorW.PrintWords Go.Proofs.YtmkdjgmdfhagfaaGreatDoorW.PrintLast Go.Proofs.YtmkdjgmdfhagfaaGreatDoorW.PrintMore Go.Proofs.YtmkdjgmdfhagfaaGreatDoor Go.Proofs.YtmkdjgmdfhagfaaGreatDoor.Plug
attribute [local go_sem] max2_int min2_int max_two min_two max_three min_three max_four min_four   -- for this text's walks alone
set_option linter.unusedVariables false
set_option linter.unusedSimpArgs false

/-! ### utf_First: function 35 -/
def utf_First.f (a0 : ByteArray) : Option (Int × Int) := (utf8_DecodeRuneInString.f a0).bind fun bt101 => (if bt101.1 = 65533 then (if bt101.2 < 3 then (some ((-1), bt101.2)) else (some (wrap64 (bt101.1), bt101.2))) else (some (wrap64 (bt101.1), bt101.2)))
set_option maxHeartbeats 8000000 in
set_option maxRecDepth 100000 in
theorem utf_First.calls (a0 : ByteArray) (r1 : Int) (r2 : Int) (w : World) (hG : Glob.G w) (h : utf_First.f a0 = some (r1, r2)) :
    Calls Tryz.prog 35 #[.string a0] w fun e w' => e = .returned (.tuple #[.int .i64 r1, .int .i64 r2]) ∧ Below w.heap.size w w' := by
  have HB := Aside0.mk (Below.refl w.heap.size w)
  have H : ((utf8_DecodeRuneInString.f a0).bind fun bt101 => (if bt101.1 = 65533 then (if bt101.2 < 3 then (some ((-1), bt101.2)) else (some (wrap64 (bt101.1), bt101.2))) else (some (wrap64 (bt101.1), bt101.2)))) = some (r1, r2) := h
  clear h
  replace H := Option.bind_eq_some_iff.mp H
  obtain ⟨⟨t101, t102⟩, A20, H⟩ := H
  replace H : (if t101 = 65533 then (if t102 < 3 then (some ((-1), t102)) else (some (wrap64 (t101), t102))) else (some (wrap64 (t101), t102))) = some (r1, r2) := H
  have A2 := Aside0.mk A20
  clear A20
  by_cases c3 : t101 = 65533
  · rw [if_pos c3] at H
    have c3b0 : (t101 == 65533) = true := beq_iff_eq.mpr c3
    have c3b1 : (t101 != 65533) = false := bne_eq_false_iff_eq.mpr c3
    clear c3
    by_cases c4 : t102 < 3
    · rw [if_pos c4] at H
      have c4b0 : decide (t102 < 3) = true := decide_eq_true c4
      clear c4
      simp only [Option.some.injEq, Prod.mk.injEq] at H
      obtain ⟨rfl, rfl⟩ := H
      go_enter Tryz.func35, Tryz.ntmps35
      go_wp2_with (first | ((with_reducible refine gate_callee (f := 65) rfl ?_); refine goesL_ (some 8) rfl rfl Tryz.func65 (by kernel_rfl) rfl #[.string a0] rfl (by (try simp only [List.map_toArray, List.map_cons, List.map_nil]); first | done | rfl | (simp only [List.length_drop, List.length_take]; rfl)) ?_; (with_reducible refine (utf8_DecodeRuneInString.calls a0 t101 t102 _ (hG.below (by first | ((repeat (first | (with_reducible first | exact HB.out | apply below_alloc | apply pw_below_drewN | apply below_drew1 | (refine Glob.below_set ?_ (by assumption) _ _ _)) | exact HB.out)); done) | (refine Drawn0.below ?_; repeat (first | exact Drawn0.refl _ | assumption | apply Drawn0.step)))) A2.out).mono ?_); rintro e w5 ⟨rfl, hb⟩; refine ⟨_, rfl, ?_⟩; have n0_ := Aside0.mk (below_step (by repeat (first | (with_reducible first | exact HB.out | apply below_alloc | apply pw_below_drewN | apply below_drew1) | exact HB.out)) hb); clear HB; have HB := n0_; clear n0_; (try clear hb); (try clear hb2); (try clear hk); (try clear hi)))
      go_ret2
      exact ⟨by first | rfl | (simp [errW_none, errW_some] <;> rfl) | (simp [*, errW_none, errW_some] <;> rfl), by repeat (first | (with_reducible first | exact HB.out | apply below_alloc | apply pw_below_drewN | apply below_drew1) | exact HB.out)⟩
    · rw [if_neg c4] at H
      have c4b0 : decide (t102 < 3) = false := decide_eq_false c4
      clear c4
      simp only [Option.some.injEq, Prod.mk.injEq] at H
      obtain ⟨rfl, rfl⟩ := H
      go_enter Tryz.func35, Tryz.ntmps35
      go_wp2_with (first | ((with_reducible refine gate_callee (f := 65) rfl ?_); refine goesL_ (some 8) rfl rfl Tryz.func65 (by kernel_rfl) rfl #[.string a0] rfl (by (try simp only [List.map_toArray, List.map_cons, List.map_nil]); first | done | rfl | (simp only [List.length_drop, List.length_take]; rfl)) ?_; (with_reducible refine (utf8_DecodeRuneInString.calls a0 t101 t102 _ (hG.below (by first | ((repeat (first | (with_reducible first | exact HB.out | apply below_alloc | apply pw_below_drewN | apply below_drew1 | (refine Glob.below_set ?_ (by assumption) _ _ _)) | exact HB.out)); done) | (refine Drawn0.below ?_; repeat (first | exact Drawn0.refl _ | assumption | apply Drawn0.step)))) A2.out).mono ?_); rintro e w6 ⟨rfl, hb⟩; refine ⟨_, rfl, ?_⟩; have n0_ := Aside0.mk (below_step (by repeat (first | (with_reducible first | exact HB.out | apply below_alloc | apply pw_below_drewN | apply below_drew1) | exact HB.out)) hb); clear HB; have HB := n0_; clear n0_; (try clear hb); (try clear hb2); (try clear hk); (try clear hi)))
      go_ret2
      exact ⟨by first | rfl | (simp [errW_none, errW_some] <;> rfl) | (simp [*, errW_none, errW_some] <;> rfl), by repeat (first | (with_reducible first | exact HB.out | apply below_alloc | apply pw_below_drewN | apply below_drew1) | exact HB.out)⟩
  · rw [if_neg c3] at H
    have c3b0 : (t101 == 65533) = false := beq_eq_false_iff_ne.mpr c3
    have c3b1 : (t101 != 65533) = true := bne_iff_ne.mpr c3
    simp only [Option.some.injEq, Prod.mk.injEq] at H
    obtain ⟨rfl, rfl⟩ := H
    go_enter Tryz.func35, Tryz.ntmps35
    go_wp2_with (first | ((with_reducible refine gate_callee (f := 65) rfl ?_); refine goesL_ (some 8) rfl rfl Tryz.func65 (by kernel_rfl) rfl #[.string a0] rfl (by (try simp only [List.map_toArray, List.map_cons, List.map_nil]); first | done | rfl | (simp only [List.length_drop, List.length_take]; rfl)) ?_; (with_reducible refine (utf8_DecodeRuneInString.calls a0 t101 t102 _ (hG.below (by first | ((repeat (first | (with_reducible first | exact HB.out | apply below_alloc | apply pw_below_drewN | apply below_drew1 | (refine Glob.below_set ?_ (by assumption) _ _ _)) | exact HB.out)); done) | (refine Drawn0.below ?_; repeat (first | exact Drawn0.refl _ | assumption | apply Drawn0.step)))) A2.out).mono ?_); rintro e w7 ⟨rfl, hb⟩; refine ⟨_, rfl, ?_⟩; have n0_ := Aside0.mk (below_step (by repeat (first | (with_reducible first | exact HB.out | apply below_alloc | apply pw_below_drewN | apply below_drew1) | exact HB.out)) hb); clear HB; have HB := n0_; clear n0_; (try clear hb); (try clear hb2); (try clear hk); (try clear hi)))
    go_ret2
    exact ⟨by first | rfl | (simp [errW_none, errW_some] <;> rfl) | (simp [*, errW_none, errW_some] <;> rfl), by repeat (first | (with_reducible first | exact HB.out | apply below_alloc | apply pw_below_drewN | apply below_drew1) | exact HB.out)⟩

end Go.Proofs.YtmkdjgmdfhagfaaGreatDoor.PX

/- YtmkdjgmdfhagfaaGreatDoorFUtfPrintable: what print.py told of Go functions, for this claim. -/
namespace Go.Proofs.YtmkdjgmdfhagfaaGreatDoor.PX
open Go.RowKit Go.Proofs.YtmkdjgmdfhagfaaGreatDoorW.PrintWords Go.Proofs.YtmkdjgmdfhagfaaGreatDoorW.PrintLast Go.Proofs.YtmkdjgmdfhagfaaGreatDoorW.PrintMore Go.Proofs.YtmkdjgmdfhagfaaGreatDoor
attribute [local go_sem] max2_int min2_int max_two min_two max_three min_three max_four min_four   -- for this text's walks alone
set_option linter.unusedVariables false
set_option linter.unusedSimpArgs false

/-! ### utf_Printable: function 66 -/
def utf_Printable.f (a0 : Int) : Option (Bool) := if a0 < 32 then (if a0 = 9 then (some true) else (if a0 = 10 then (some true) else (some (a0 == 13)))) else (if a0 < 127 then (some true) else (if a0 < 160 then (some (a0 == 133)) else (if a0 < 55296 then (some true) else (if a0 < 65536 then (if a0 ≥ 57344 then (if a0 ≤ 65533 then (some (a0 != 65279)) else (some false)) else (some false)) else (some (decide (a0 ≤ 1114111)))))))
set_option maxHeartbeats 8000000 in
set_option maxRecDepth 100000 in
theorem utf_Printable.calls (a0 : Int) (r : Bool) (w : World) (hG : Glob.G w) (h : utf_Printable.f a0 = some r) :
    Calls Tryz.prog 66 #[.int .i64 a0] w fun e w' => e = .returned (.bool r) ∧ Drawn0 w w' := by
  have H : (if a0 < 32 then (if a0 = 9 then (some true) else (if a0 = 10 then (some true) else (some (a0 == 13)))) else (if a0 < 127 then (some true) else (if a0 < 160 then (some (a0 == 133)) else (if a0 < 55296 then (some true) else (if a0 < 65536 then (if a0 ≥ 57344 then (if a0 ≤ 65533 then (some (a0 != 65279)) else (some false)) else (some false)) else (some (decide (a0 ≤ 1114111)))))))) = some r := h
  clear h
  by_cases c2 : a0 < 32
  · rw [if_pos c2] at H
    have c2b0 : decide (a0 < 32) = true := decide_eq_true c2
    clear c2
    by_cases c3 : a0 = 9
    · rw [if_pos c3] at H
      have c3b0 : (a0 == 9) = true := beq_iff_eq.mpr c3
      have c3b1 : (a0 != 9) = false := bne_eq_false_iff_eq.mpr c3
      clear c3
      obtain rfl := Option.some.inj H
      go_enter Tryz.func66, Tryz.ntmps66
      go_wp2
      go_ret
      exact ⟨by first | rfl | (simp; done) | (simp [*]; done), by repeat (first | exact Drawn0.refl _ | apply Drawn0.step)⟩
    · rw [if_neg c3] at H
      have c3b0 : (a0 == 9) = false := beq_eq_false_iff_ne.mpr c3
      have c3b1 : (a0 != 9) = true := bne_iff_ne.mpr c3
      by_cases c4 : a0 = 10
      · rw [if_pos c4] at H
        have c4b0 : (a0 == 10) = true := beq_iff_eq.mpr c4
        have c4b1 : (a0 != 10) = false := bne_eq_false_iff_eq.mpr c4
        clear c4
        obtain rfl := Option.some.inj H
        go_enter Tryz.func66, Tryz.ntmps66
        go_wp2
        go_ret
        exact ⟨by first | rfl | (simp; done) | (simp [*]; done), by repeat (first | exact Drawn0.refl _ | apply Drawn0.step)⟩
      · rw [if_neg c4] at H
        have c4b0 : (a0 == 10) = false := beq_eq_false_iff_ne.mpr c4
        have c4b1 : (a0 != 10) = true := bne_iff_ne.mpr c4
        obtain rfl := Option.some.inj H
        go_enter Tryz.func66, Tryz.ntmps66
        go_wp2
        go_ret
        exact ⟨by first | rfl | (simp; done) | (simp [*]; done), by repeat (first | exact Drawn0.refl _ | apply Drawn0.step)⟩
  · rw [if_neg c2] at H
    have c2b0 : decide (a0 < 32) = false := decide_eq_false c2
    clear c2
    by_cases c5 : a0 < 127
    · rw [if_pos c5] at H
      have c5b0 : decide (a0 < 127) = true := decide_eq_true c5
      clear c5
      obtain rfl := Option.some.inj H
      go_enter Tryz.func66, Tryz.ntmps66
      go_wp2
      go_ret
      exact ⟨by first | rfl | (simp; done) | (simp [*]; done), by repeat (first | exact Drawn0.refl _ | apply Drawn0.step)⟩
    · rw [if_neg c5] at H
      have c5b0 : decide (a0 < 127) = false := decide_eq_false c5
      clear c5
      by_cases c6 : a0 < 160
      · rw [if_pos c6] at H
        have c6b0 : decide (a0 < 160) = true := decide_eq_true c6
        clear c6
        obtain rfl := Option.some.inj H
        go_enter Tryz.func66, Tryz.ntmps66
        go_wp2
        go_ret
        exact ⟨by first | rfl | (simp; done) | (simp [*]; done), by repeat (first | exact Drawn0.refl _ | apply Drawn0.step)⟩
      · rw [if_neg c6] at H
        have c6b0 : decide (a0 < 160) = false := decide_eq_false c6
        clear c6
        by_cases c7 : a0 < 55296
        · rw [if_pos c7] at H
          have c7b0 : decide (a0 < 55296) = true := decide_eq_true c7
          clear c7
          obtain rfl := Option.some.inj H
          go_enter Tryz.func66, Tryz.ntmps66
          go_wp2
          go_ret
          exact ⟨by first | rfl | (simp; done) | (simp [*]; done), by repeat (first | exact Drawn0.refl _ | apply Drawn0.step)⟩
        · rw [if_neg c7] at H
          have c7b0 : decide (a0 < 55296) = false := decide_eq_false c7
          clear c7
          by_cases c8 : a0 < 65536
          · rw [if_pos c8] at H
            have c8b0 : decide (a0 < 65536) = true := decide_eq_true c8
            clear c8
            by_cases c9 : a0 ≥ 57344
            · rw [if_pos c9] at H
              have c9b0 : decide (57344 ≤ a0) = true := decide_eq_true c9
              clear c9
              by_cases c10 : a0 ≤ 65533
              · rw [if_pos c10] at H
                have c10b0 : decide (a0 ≤ 65533) = true := decide_eq_true c10
                clear c10
                obtain rfl := Option.some.inj H
                go_enter Tryz.func66, Tryz.ntmps66
                go_wp2
                go_ret
                exact ⟨by first | rfl | (simp; done) | (simp [*]; done), by repeat (first | exact Drawn0.refl _ | apply Drawn0.step)⟩
              · rw [if_neg c10] at H
                have c10b0 : decide (a0 ≤ 65533) = false := decide_eq_false c10
                clear c10
                obtain rfl := Option.some.inj H
                go_enter Tryz.func66, Tryz.ntmps66
                go_wp2
                go_ret
                exact ⟨by first | rfl | (simp; done) | (simp [*]; done), by repeat (first | exact Drawn0.refl _ | apply Drawn0.step)⟩
            · rw [if_neg c9] at H
              have c9b0 : decide (57344 ≤ a0) = false := decide_eq_false c9
              clear c9
              obtain rfl := Option.some.inj H
              go_enter Tryz.func66, Tryz.ntmps66
              go_wp2
              go_ret
              exact ⟨by first | rfl | (simp; done) | (simp [*]; done), by repeat (first | exact Drawn0.refl _ | apply Drawn0.step)⟩
          · rw [if_neg c8] at H
            have c8b0 : decide (a0 < 65536) = false := decide_eq_false c8
            clear c8
            obtain rfl := Option.some.inj H
            go_enter Tryz.func66, Tryz.ntmps66
            go_wp2
            go_ret
            exact ⟨by first | rfl | (simp; done) | (simp [*]; done), by repeat (first | exact Drawn0.refl _ | apply Drawn0.step)⟩

end Go.Proofs.YtmkdjgmdfhagfaaGreatDoor.PX

/- YtmkdjgmdfhagfaaGreatDoorFQuoteMay: what print.py told of Go functions, for this claim. -/
namespace Go.Proofs.YtmkdjgmdfhagfaaGreatDoor.PX
open Go.RowKit Go.Proofs.YtmkdjgmdfhagfaaGreatDoorW.PrintWords Go.Proofs.YtmkdjgmdfhagfaaGreatDoorW.PrintLast Go.Proofs.YtmkdjgmdfhagfaaGreatDoorW.PrintMore Go.Proofs.YtmkdjgmdfhagfaaGreatDoor
attribute [local go_sem] max2_int min2_int max_two min_two max_three min_three max_four min_four   -- for this text's walks alone
set_option linter.unusedVariables false
set_option linter.unusedSimpArgs false

/-! ### quote_may: function 36 -/
def quote_may.f (a0 : Int) : Option (Bool) := (utf_Printable.f a0).bind fun t101 => (if t101 = true then (if a0 = 9 then (some false) else (if a0 = 10 then (some false) else (some (a0 != 13)))) else (some false))
set_option maxHeartbeats 8000000 in
set_option maxRecDepth 100000 in
theorem quote_may.calls (a0 : Int) (r : Bool) (w : World) (hG : Glob.G w) (h : quote_may.f a0 = some r) :
    Calls Tryz.prog 36 #[.int .i64 a0] w fun e w' => e = .returned (.bool r) ∧ Drawn0 w w' := by
  have H : ((utf_Printable.f a0).bind fun t101 => (if t101 = true then (if a0 = 9 then (some false) else (if a0 = 10 then (some false) else (some (a0 != 13)))) else (some false))) = some r := h
  clear h
  replace H := Option.bind_eq_some_iff.mp H
  obtain ⟨t101, A20, H⟩ := H
  replace H : (if t101 = true then (if a0 = 9 then (some false) else (if a0 = 10 then (some false) else (some (a0 != 13)))) else (some false)) = some r := H
  have A2 := Aside0.mk A20
  clear A20
  by_cases c3 : t101 = true
  · subst c3
    have H1 : (if a0 = 9 then (some false) else (if a0 = 10 then (some false) else (some (a0 != 13)))) = some r := by rw [if_pos rfl] at H; exact H
    clear H
    have H := H1
    clear H1
    by_cases c4 : a0 = 9
    · rw [if_pos c4] at H
      have c4b0 : (a0 == 9) = true := beq_iff_eq.mpr c4
      have c4b1 : (a0 != 9) = false := bne_eq_false_iff_eq.mpr c4
      clear c4
      obtain rfl := Option.some.inj H
      go_enter Tryz.func36, Tryz.ntmps36
      go_wp2_with (first | ((with_reducible refine gate_callee (f := 66) rfl ?_); refine goesL_ (some 4) rfl rfl Tryz.func66 (by kernel_rfl) rfl #[.int .i64 a0] rfl (by (try simp only [List.map_toArray, List.map_cons, List.map_nil]); first | done | rfl | (simp only [List.length_drop, List.length_take]; rfl)) ?_; (with_reducible refine (utf_Printable.calls a0 true _ (hG.below (by first | ((repeat (first | (with_reducible first | exact HB.out | apply below_alloc | apply pw_below_drewN | apply below_drew1 | (refine Glob.below_set ?_ (by assumption) _ _ _)) | exact HB.out)); done) | (refine Drawn0.below ?_; repeat (first | exact Drawn0.refl _ | assumption | apply Drawn0.step)))) A2.out).mono ?_); rintro e w' ⟨rfl, ⟨nd, rfl⟩⟩; refine ⟨_, rfl, ?_⟩))
      go_ret
      exact ⟨by first | rfl | (simp; done) | (simp [*]; done), by repeat (first | exact Drawn0.refl _ | apply Drawn0.step)⟩
    · rw [if_neg c4] at H
      have c4b0 : (a0 == 9) = false := beq_eq_false_iff_ne.mpr c4
      have c4b1 : (a0 != 9) = true := bne_iff_ne.mpr c4
      by_cases c5 : a0 = 10
      · rw [if_pos c5] at H
        have c5b0 : (a0 == 10) = true := beq_iff_eq.mpr c5
        have c5b1 : (a0 != 10) = false := bne_eq_false_iff_eq.mpr c5
        clear c5
        obtain rfl := Option.some.inj H
        go_enter Tryz.func36, Tryz.ntmps36
        go_wp2_with (first | ((with_reducible refine gate_callee (f := 66) rfl ?_); refine goesL_ (some 4) rfl rfl Tryz.func66 (by kernel_rfl) rfl #[.int .i64 a0] rfl (by (try simp only [List.map_toArray, List.map_cons, List.map_nil]); first | done | rfl | (simp only [List.length_drop, List.length_take]; rfl)) ?_; (with_reducible refine (utf_Printable.calls a0 true _ (hG.below (by first | ((repeat (first | (with_reducible first | exact HB.out | apply below_alloc | apply pw_below_drewN | apply below_drew1 | (refine Glob.below_set ?_ (by assumption) _ _ _)) | exact HB.out)); done) | (refine Drawn0.below ?_; repeat (first | exact Drawn0.refl _ | assumption | apply Drawn0.step)))) A2.out).mono ?_); rintro e w' ⟨rfl, ⟨nd, rfl⟩⟩; refine ⟨_, rfl, ?_⟩))
        go_ret
        exact ⟨by first | rfl | (simp; done) | (simp [*]; done), by repeat (first | exact Drawn0.refl _ | apply Drawn0.step)⟩
      · rw [if_neg c5] at H
        have c5b0 : (a0 == 10) = false := beq_eq_false_iff_ne.mpr c5
        have c5b1 : (a0 != 10) = true := bne_iff_ne.mpr c5
        obtain rfl := Option.some.inj H
        go_enter Tryz.func36, Tryz.ntmps36
        go_wp2_with (first | ((with_reducible refine gate_callee (f := 66) rfl ?_); refine goesL_ (some 4) rfl rfl Tryz.func66 (by kernel_rfl) rfl #[.int .i64 a0] rfl (by (try simp only [List.map_toArray, List.map_cons, List.map_nil]); first | done | rfl | (simp only [List.length_drop, List.length_take]; rfl)) ?_; (with_reducible refine (utf_Printable.calls a0 true _ (hG.below (by first | ((repeat (first | (with_reducible first | exact HB.out | apply below_alloc | apply pw_below_drewN | apply below_drew1 | (refine Glob.below_set ?_ (by assumption) _ _ _)) | exact HB.out)); done) | (refine Drawn0.below ?_; repeat (first | exact Drawn0.refl _ | assumption | apply Drawn0.step)))) A2.out).mono ?_); rintro e w' ⟨rfl, ⟨nd, rfl⟩⟩; refine ⟨_, rfl, ?_⟩))
        go_ret
        exact ⟨by first | rfl | (simp; done) | (simp [*]; done), by repeat (first | exact Drawn0.refl _ | apply Drawn0.step)⟩
  · replace c3 := Bool.eq_false_iff.mpr c3
    subst c3
    have H1 : (some false) = some r := by rw [if_neg (show ¬ (false = true) by decide)] at H; exact H
    clear H
    have H := H1
    clear H1
    obtain rfl := Option.some.inj H
    go_enter Tryz.func36, Tryz.ntmps36
    go_wp2_with (first | ((with_reducible refine gate_callee (f := 66) rfl ?_); refine goesL_ (some 4) rfl rfl Tryz.func66 (by kernel_rfl) rfl #[.int .i64 a0] rfl (by (try simp only [List.map_toArray, List.map_cons, List.map_nil]); first | done | rfl | (simp only [List.length_drop, List.length_take]; rfl)) ?_; (with_reducible refine (utf_Printable.calls a0 false _ (hG.below (by first | ((repeat (first | (with_reducible first | exact HB.out | apply below_alloc | apply pw_below_drewN | apply below_drew1 | (refine Glob.below_set ?_ (by assumption) _ _ _)) | exact HB.out)); done) | (refine Drawn0.below ?_; repeat (first | exact Drawn0.refl _ | assumption | apply Drawn0.step)))) A2.out).mono ?_); rintro e w' ⟨rfl, ⟨nd, rfl⟩⟩; refine ⟨_, rfl, ?_⟩))
    go_ret
    exact ⟨by first | rfl | (simp; done) | (simp [*]; done), by repeat (first | exact Drawn0.refl _ | apply Drawn0.step)⟩

end Go.Proofs.YtmkdjgmdfhagfaaGreatDoor.PX

/- YtmkdjgmdfhagfaaGreatDoorFQuoteSimple: what print.py told of Go functions, for this claim. -/
namespace Go.Proofs.YtmkdjgmdfhagfaaGreatDoor.PX
open Go.RowKit Go.Proofs.YtmkdjgmdfhagfaaGreatDoorW.PrintWords Go.Proofs.YtmkdjgmdfhagfaaGreatDoorW.PrintLast Go.Proofs.YtmkdjgmdfhagfaaGreatDoorW.PrintMore Go.Proofs.YtmkdjgmdfhagfaaGreatDoor
attribute [local go_sem] max2_int min2_int max_two min_two max_three min_three max_four min_four   -- for this text's walks alone
set_option linter.unusedVariables false
set_option linter.unusedSimpArgs false

/-! ### quote_Simple: function 14 -/
def quote_Simple.l0 : Nat → ByteArray → Option (Bool)
  | 0, _ => none
  | k + 1, x0 => if x0.toList = ([] : List UInt8) then (some true) else ((utf_First.f x0).bind fun bt101 => ((quote_may.f bt101.1).bind fun t103 => (if t103 = true then (if 0 ≤ bt101.2 then (if bt101.2 ≤ (x0.size : Int) then (quote_Simple.l0 k (x0.extract (bt101.2 : Int).toNat x0.size)) else (none)) else (none)) else (some false))))
def quote_Simple.f (k : Nat) (a0 : ByteArray) : Option (Bool) := quote_Simple.l0 k a0
theorem quote_Simple.mono_l : ∀ k, (∀ y0, LeO (quote_Simple.l0 k y0) (quote_Simple.l0 (k + 1) y0))
  | 0 => fun _ r h => by simp [quote_Simple.l0] at h
  | k + 1 => by
    have ih0 := quote_Simple.mono_l k
    · intro y0
      unfold quote_Simple.l0
      repeat' first
      | (with_reducible exact ih0 _)
      | (with_reducible exact LeO.refl _)
      | (with_reducible exact LeO.none _)
      | (with_reducible refine LeO.ite ?_ ?_)
      | (with_reducible refine LeO.bind ?_ (fun _ => ?_))
      | exact ih0 _
      | exact LeO.none _
      | refine LeO.ite ?_ ?_
      | refine LeO.bind ?_ (fun _ => ?_)
theorem quote_Simple.mono : ∀ a0 k, LeO (quote_Simple.f k a0) (quote_Simple.f (k + 1) a0) := by
  intro a0 k
  have ih0 := quote_Simple.mono_l k
  unfold quote_Simple.f
  repeat' first
      | (with_reducible exact ih0 _)
      | (with_reducible exact LeO.refl _)
      | (with_reducible exact LeO.none _)
      | (with_reducible refine LeO.ite ?_ ?_)
      | (with_reducible refine LeO.bind ?_ (fun _ => ?_))
      | exact ih0 _
      | exact LeO.none _
      | refine LeO.ite ?_ ?_
      | refine LeO.bind ?_ (fun _ => ?_)
set_option maxHeartbeats 8000000 in
set_option maxRecDepth 100000 in
theorem quote_Simple.calls (k : Nat) (a0 : ByteArray) (r : Bool) (w : World) (hG : Glob.G w) (h : quote_Simple.f k a0 = some r) :
    Calls Tryz.prog 14 #[.string a0] w fun e w' => e = .returned (.bool r) ∧ Below w.heap.size w w' := by
  have HB := Aside0.mk (Below.refl w.heap.size w)
  have H : (quote_Simple.l0 k a0) = some r := h
  clear h
  have H' := Aside0.mk H
  clear H
  go_enter Tryz.func14, Tryz.ntmps14
  go_wp2
  go_loopg [0] k (fun kq v0 w' => ∃ (x0_1 : ByteArray), v0 = .string x0_1 ∧ Aside0 (quote_Simple.l0 kq x0_1 = some r) ∧ Aside0 (kq ≤ k) ∧ Aside0 (Below w.heap.size w w'))
  case atStart => exact ⟨(a0), (by first | rfl | (simp; done) | (simp [*]; done)), H', ⟨Nat.le_refl _⟩, ⟨by repeat (first | (with_reducible first | exact HB.out | apply below_alloc | apply pw_below_drewN | apply below_drew1) | exact HB.out)⟩⟩
  case round =>
    clear H'
    try clear c1
    obtain ⟨x0_1, rfl, HA, HK1, HB⟩ := hrel
    cases gk with
    | zero => exact absurd HA.out (by simp [quote_Simple.l0])
    | succ k1 =>
      have H := HA.out
      clear HA
      simp only [quote_Simple.l0] at H
      by_cases c2 : x0_1.toList = ([] : List UInt8)
      · rw [if_pos c2] at H
        have c2b0 : (x0_1.toList == ([] : List UInt8)) = true := beq_iff_eq.mpr c2
        have c2b1 : (x0_1.toList != ([] : List UInt8)) = false := bne_eq_false_iff_eq.mpr c2
        clear c2
        obtain rfl := Option.some.inj H
        go_wp2
        go_ret
        exact ⟨by first | rfl | (simp [errW_none, errW_some] <;> rfl) | (simp [*, errW_none, errW_some] <;> rfl), by repeat (first | (with_reducible first | exact HB.out | apply below_alloc | apply pw_below_drewN | apply below_drew1) | exact HB.out)⟩
      · rw [if_neg c2] at H
        have c2b0 : (x0_1.toList == ([] : List UInt8)) = false := beq_eq_false_iff_ne.mpr c2
        have c2b1 : (x0_1.toList != ([] : List UInt8)) = true := bne_iff_ne.mpr c2
        replace H := Option.bind_eq_some_iff.mp H
        obtain ⟨⟨t101, t102⟩, A30, H⟩ := H
        replace H : ((quote_may.f t101).bind fun t103 => (if t103 = true then (if 0 ≤ t102 then (if t102 ≤ (x0_1.size : Int) then (quote_Simple.l0 k1 (x0_1.extract (t102 : Int).toNat x0_1.size)) else (none)) else (none)) else (some false))) = some r := H
        have A3 := Aside0.mk A30
        clear A30
        replace H := Option.bind_eq_some_iff.mp H
        obtain ⟨t103, A40, H⟩ := H
        replace H : (if t103 = true then (if 0 ≤ t102 then (if t102 ≤ (x0_1.size : Int) then (quote_Simple.l0 k1 (x0_1.extract (t102 : Int).toNat x0_1.size)) else (none)) else (none)) else (some false)) = some r := H
        have A4 := Aside0.mk A40
        clear A40
        by_cases c5 : t103 = true
        · subst c5
          have H1 : (if 0 ≤ t102 then (if t102 ≤ (x0_1.size : Int) then (quote_Simple.l0 k1 (x0_1.extract (t102 : Int).toNat x0_1.size)) else (none)) else (none)) = some r := by rw [if_pos rfl] at H; exact H
          clear H
          have H := H1
          clear H1
          by_cases c6 : 0 ≤ t102
          · rw [if_pos c6] at H
            have c6b0 := eq_true c6
            have c6b1 : decide (0 ≤ t102) = true := decide_eq_true c6
            clear c6
            by_cases c7 : t102 ≤ (x0_1.size : Int)
            · rw [if_pos c7] at H
              have c7b0 := eq_true c7
              have c7b1 : decide (t102 ≤ (x0_1.size : Int)) = true := decide_eq_true c7
              clear c7
              have H' := Aside0.mk H
              clear H
              go_wp2_with (first | ((with_reducible refine gate_callee (f := 35) rfl ?_); refine goesL_ (some 9) rfl rfl Tryz.func35 (by kernel_rfl) rfl #[.string x0_1] rfl (by (try simp only [List.map_toArray, List.map_cons, List.map_nil]); first | done | rfl | (simp only [List.length_drop, List.length_take]; rfl)) ?_; (with_reducible refine (utf_First.calls x0_1 t101 t102 _ (hG.below (by first | ((repeat (first | (with_reducible first | exact HB.out | apply below_alloc | apply pw_below_drewN | apply below_drew1 | (refine Glob.below_set ?_ (by assumption) _ _ _)) | exact HB.out)); done) | (refine Drawn0.below ?_; repeat (first | exact Drawn0.refl _ | assumption | apply Drawn0.step)))) A3.out).mono ?_); rintro e w8 ⟨rfl, hb⟩; refine ⟨_, rfl, ?_⟩; have n0_ := Aside0.mk (below_step (by repeat (first | (with_reducible first | exact HB.out | apply below_alloc | apply pw_below_drewN | apply below_drew1) | exact HB.out)) hb); clear HB; have HB := n0_; clear n0_; (try clear hb); (try clear hb2); (try clear hk); (try clear hi)) | ((with_reducible refine gate_callee (f := 36) rfl ?_); refine goesL_ (some 13) rfl rfl Tryz.func36 (by kernel_rfl) rfl #[.int .i64 t101] rfl (by (try simp only [List.map_toArray, List.map_cons, List.map_nil]); first | done | rfl | (simp only [List.length_drop, List.length_take]; rfl)) ?_; (with_reducible refine (quote_may.calls t101 true _ (hG.below (by first | ((repeat (first | (with_reducible first | exact HB.out | apply below_alloc | apply pw_below_drewN | apply below_drew1 | (refine Glob.below_set ?_ (by assumption) _ _ _)) | exact HB.out)); done) | (refine Drawn0.below ?_; repeat (first | exact Drawn0.refl _ | assumption | apply Drawn0.step)))) A4.out).mono ?_); rintro e w' ⟨rfl, ⟨nd, rfl⟩⟩; refine ⟨_, rfl, ?_⟩))
              go_roundg k1
              case measure => have := HK1.out; omega
              case rel => exact ⟨(x0_1.extract (t102 : Int).toNat x0_1.size), (by first | rfl | (simp; done) | (simp [*]; done)), H', ⟨by have := HK1.out; omega⟩, ⟨by repeat (first | (with_reducible first | exact HB.out | apply below_alloc | apply pw_below_drewN | apply below_drew1) | exact HB.out)⟩⟩
            · rw [if_neg c7] at H
              exact absurd H (by simp)
          · rw [if_neg c6] at H
            exact absurd H (by simp)
        · replace c5 := Bool.eq_false_iff.mpr c5
          subst c5
          have H1 : (some false) = some r := by rw [if_neg (show ¬ (false = true) by decide)] at H; exact H
          clear H
          have H := H1
          clear H1
          obtain rfl := Option.some.inj H
          go_wp2_with (first | ((with_reducible refine gate_callee (f := 35) rfl ?_); refine goesL_ (some 9) rfl rfl Tryz.func35 (by kernel_rfl) rfl #[.string x0_1] rfl (by (try simp only [List.map_toArray, List.map_cons, List.map_nil]); first | done | rfl | (simp only [List.length_drop, List.length_take]; rfl)) ?_; (with_reducible refine (utf_First.calls x0_1 t101 t102 _ (hG.below (by first | ((repeat (first | (with_reducible first | exact HB.out | apply below_alloc | apply pw_below_drewN | apply below_drew1 | (refine Glob.below_set ?_ (by assumption) _ _ _)) | exact HB.out)); done) | (refine Drawn0.below ?_; repeat (first | exact Drawn0.refl _ | assumption | apply Drawn0.step)))) A3.out).mono ?_); rintro e w9 ⟨rfl, hb⟩; refine ⟨_, rfl, ?_⟩; have n0_ := Aside0.mk (below_step (by repeat (first | (with_reducible first | exact HB.out | apply below_alloc | apply pw_below_drewN | apply below_drew1) | exact HB.out)) hb); clear HB; have HB := n0_; clear n0_; (try clear hb); (try clear hb2); (try clear hk); (try clear hi)) | ((with_reducible refine gate_callee (f := 36) rfl ?_); refine goesL_ (some 13) rfl rfl Tryz.func36 (by kernel_rfl) rfl #[.int .i64 t101] rfl (by (try simp only [List.map_toArray, List.map_cons, List.map_nil]); first | done | rfl | (simp only [List.length_drop, List.length_take]; rfl)) ?_; (with_reducible refine (quote_may.calls t101 false _ (hG.below (by first | ((repeat (first | (with_reducible first | exact HB.out | apply below_alloc | apply pw_below_drewN | apply below_drew1 | (refine Glob.below_set ?_ (by assumption) _ _ _)) | exact HB.out)); done) | (refine Drawn0.below ?_; repeat (first | exact Drawn0.refl _ | assumption | apply Drawn0.step)))) A4.out).mono ?_); rintro e w' ⟨rfl, ⟨nd, rfl⟩⟩; refine ⟨_, rfl, ?_⟩))
          go_ret
          exact ⟨by first | rfl | (simp [errW_none, errW_some] <;> rfl) | (simp [*, errW_none, errW_some] <;> rfl), by repeat (first | (with_reducible first | exact HB.out | apply below_alloc | apply pw_below_drewN | apply below_drew1) | exact HB.out)⟩

end Go.Proofs.YtmkdjgmdfhagfaaGreatDoor.PX

/- YtmkdjgmdfhagfaaGreatDoorFE1: what print.py told of Go functions, for this claim. -/
namespace Go.Proofs.YtmkdjgmdfhagfaaGreatDoor.PX
open Go.RowKit Go.Proofs.YtmkdjgmdfhagfaaGreatDoorW.PrintWords Go.Proofs.YtmkdjgmdfhagfaaGreatDoorW.PrintLast Go.Proofs.YtmkdjgmdfhagfaaGreatDoorW.PrintMore Go.Proofs.YtmkdjgmdfhagfaaGreatDoor
attribute [local go_sem] max2_int min2_int max_two min_two max_three min_three max_four min_four   -- for this text's walks alone
set_option linter.unusedVariables false
set_option linter.unusedSimpArgs false

theorem eqA38 (d : Nat) (w : World) (x0 y0 : Int) (x1 y1 : Int) :
    (Op.equalIn (d + 2) 38 (.agg #[.int .i64 x0, .int .i64 x1]) (.agg #[.int .i64 y0, .int .i64 y1])).run Tryz.prog w = .ok (x0 == y0 && (x1 == y1)) w := by
  refine eqA_of Tryz.underlying38 (by kernel_rfl) ?_
  refine eqf_cons (by rfl) (by go_simp; rfl) (by go_simp; rfl) (by go_simp) ?_
  exact eqf_last (by rfl) (by go_simp; rfl) (by go_simp; rfl) (by go_simp)
end Go.Proofs.YtmkdjgmdfhagfaaGreatDoor.PX

/- A strings.Builder of the call's own, by itself or within the program's own kind of builder: what its methods do to it. Conditions: the new length fits in memory. -/
set_option linter.unusedVariables false
namespace Go.Proofs.YtmkdjgmdfhagfaaGreatDoor.Bld
open Go.RowKit Go.Proofs.YtmkdjgmdfhagfaaGreatDoor

/-- A type whose variables are laid out as a builder's. -/
structure Lies (T : TypeId) : Prop where
  lies : liesAt Tryz.prog Tryz.prog.depth T (2 / Tryz.prog.cellsOf T) 0 63 1 = true
  ne : T ≠ 5
theorem lies_plain : Lies 63 := ⟨by kernel_rfl, by decide⟩
theorem lies_quote : Lies 65 := ⟨by kernel_rfl, by decide⟩

theorem size_bld : (Tryz.prog.info? 63).map (·.size) = some 2 := by kernel_rfl
theorem info_byte : (Tryz.prog.info? 5).map (fun i => (i.zero, i.size, i.bytes)) = some (some (.int .u8 0), 1, 1) := by kernel_rfl
theorem ptr_bld : Tryz.prog.underlying 61 = some (.pointer 63) := by kernel_rfl
theorem ptr_raw : Tryz.prog.underlying 135 = some .unsafePointer := by kernel_rfl
theorem row_byte : Tryz.prog.underlying 58 = some (.slice 5) := by kernel_rfl
theorem str_t : Tryz.prog.underlying 9 = some .string := by kernel_rfl

set_option maxHeartbeats 2000000 in
set_option maxRecDepth 100000 in
theorem check (T : TypeId) (hT : Lies T) (B b : Nat) (bs : List Value) (w : World) (h : Lib.IsBuilderF T 5 B b bs w) :
    Calls Tryz.prog 69 #[.pointer (some ⟨b, 0, none⟩)] w fun e w' => e = .returned (.tuple #[]) ∧ (Lib.BuilderAtF T 5 B b (.pointer (some ⟨b, 0, none⟩)) bs w' ∧ Below B w w' ∧ Lib.OthersKept 5 (some b) w w') := by
  obtain ⟨j, hj, hjs⟩ := Option.map_eq_some_iff.1 size_bld
  rcases h with h | h
  · have h0 := h.cell0; have hsh := h.shape; have hfz := h.frozen0
    have HE : Hid (Lib.BuilderAtF T 5 B b (.pointer (some ⟨b, 0, none⟩)) bs (w.setCell ⟨b, 0, none⟩ (.pointer (some ⟨b, 0, none⟩))) ∧ Below B w (w.setCell ⟨b, 0, none⟩ (.pointer (some ⟨b, 0, none⟩))) ∧ Lib.OthersKept 5 (some b) w (w.setCell ⟨b, 0, none⟩ (.pointer (some ⟨b, 0, none⟩)))) :=
      Lib.hid ⟨h.used _, (Below.refl B w).setCell (p := ⟨b, 0, none⟩) h.1 _, (Lib.OthersKept.refl _ _ w).setCell ⟨b, 0, none⟩ rfl _⟩
    clear h
    go_enter Tryz.func69, Tryz.ntmps69
    go_wp2
    rw [Lib.run_to_unsafe w ⟨b, 0, none⟩ ptr_bld ptr_raw hj (by rw [hjs]; decide) hsh (Nat.zero_lt_succ 1)]
    simp only [Result.andThen]
    rw [Oper.upon_value]
    go_wp2
    rw [run_callFunc_extern Tryz.func99 (by kernel_rfl) (by kernel_rfl) (by kernel_rfl) (e := Extern.AbiNoEscape.same) (by kernel_rfl)]
    rw [Lib.run_noEscape]
    simp only [Result.andThen]
    rw [Oper.upon_value]
    go_wp2
    rw [Lib.run_from_unsafe w ⟨b, 0, none⟩ ptr_raw ptr_bld hj hsh hT.lies]
    simp only [Result.andThen]
    rw [Oper.upon_value]
    go_wp2
    go_end0
    exact ⟨rfl, HE.out⟩
  · have h0 := h.cell0
    have HE : Hid (Lib.BuilderAtF T 5 B b (.pointer (some ⟨b, 0, none⟩)) bs w ∧ Below B w w ∧ Lib.OthersKept 5 (some b) w w) := Lib.hid ⟨h, Below.refl B _, Lib.OthersKept.refl _ _ _⟩
    clear h
    go_enter Tryz.func69, Tryz.ntmps69
    go_wp2
    rw [Lib.run_neq_ptr_same w _ ptr_bld hj]
    go_wp2
    go_end0
    exact ⟨rfl, HE.out⟩

/-- What a method that writes leaves. -/
def Wrote (T : TypeId) (B b : Nat) (bs : List Value) (w w' : World) : Prop :=
  Lib.BuilderAtF T 5 B b (.pointer (some ⟨b, 0, none⟩)) bs w' ∧ Below B w w' ∧ Lib.OthersKept 5 (some b) w w'

theorem at_lt {w : World} {b : Nat} {o : Obj} (h : w.heap[b]? = some o) : b < w.heap.size := by
  rcases Nat.lt_or_ge b w.heap.size with h' | h'
  · exact h'
  · simp [Array.getElem?_eq_none h'] at h

set_option maxHeartbeats 2000000 in
set_option maxRecDepth 100000 in
theorem byte (T : TypeId) (hT : Lies T) (B b : Nat) (bs : List Value) (c : Int) (w : World) (h : Lib.IsBuilderF T 5 B b bs w) (hlen : bs.length + 1 ≤ 140737488355328) (hBw : B ≤ w.heap.size) :
    Calls Tryz.prog 42 #[.pointer (some ⟨b, 0, none⟩), .int .u8 c] w fun e w' => e = .returned .nilIface ∧ Wrote T B b (bs ++ [.int .u8 c]) w w' := by
  obtain ⟨i0, hi, hz0, hz1, hz2⟩ := info_parts info_byte
  go_enter Tryz.func42, Tryz.ntmps42
  go_wp2_with (go_at_call 69; refine (check T hT B b bs _ h).mono ?_)
  rintro e w1 ⟨rfl, h1, hb1, hk1⟩
  obtain ⟨hB, v, hbk, hown, hne⟩ := h1
  have c0 : w1.cell? ⟨b, 0, none⟩ = some (.pointer (some ⟨b, 0, none⟩)) := by rw [Lib.cell_of_heap hbk]; rfl
  have c1 : w1.cell? ⟨b, 1, none⟩ = some v := by rw [Lib.cell_of_heap hbk]; rfl
  go_wp2_with (at_builtin; refine wpList_append_ownF _ rfl _ _ 58 rfl B 5 i0 (.int .u8 0) 1 1 row_byte hi hz0 hz1 hz2 rfl (by decide) _ _ _ rfl (hown.alloc _) ⟨w1.heap.size, 0, none⟩ 1 1 [.int .u8 c] rfl rfl ?c1 ?c2 ?c3 ?c4 ?c5 ?_)
  case c1 =>
    intro j u hj
    match j, hj with
    | 0, hj => simp at hj; subst hj; simp [Addr.add]
  case c2 => intro u hu; simp at hu; subst hu; rfl
  case c3 => unfold maxLen; omega
  case c4 => omega
  case c5 => have := hb1.size; simp; omega
  intro v' w2 hown' hgrow _
  have hlt := at_lt hbk
  have hb2 : w2.heap[b]? = some (.cells #[.pointer (some ⟨b, 0, none⟩), v] T (0, 0)) := by
    rw [hgrow.block b (by simp; omega) (fun e => hne e.symm), Lib.alloc_old w1 _ b hlt]
    exact hbk
  have d0 : w2.cell? ⟨b, 0, none⟩ = some (.pointer (some ⟨b, 0, none⟩)) := by rw [Lib.cell_of_heap hb2]; rfl
  have d1 : w2.cell? ⟨b, 1, none⟩ = some v := by rw [Lib.cell_of_heap hb2]; rfl
  have f1 : w2.frozen? ⟨b, 1, none⟩ = false := Lib.frozen_of_heap hb2 1
  obtain ⟨g, cap, rfl⟩ : ∃ g cap, v' = .slice (some ⟨g, 0, none⟩) (bs.length + 1) cap := by
    rcases hown'.2 with ⟨_, h0⟩ | ⟨g, cap, cur, fz, hv, _⟩
    · omega
    · exact ⟨g, cap, hv⟩
  go_wp2
  go_ret
  refine ⟨rfl, ?_, ?_, ((hk1.alloc _).grown hgrow (Lib.ownsRowF_kind (hown.alloc _))).setCell ⟨b, 1, none⟩ rfl _⟩
  · exact Lib.BuilderAtF.put (T := T) (e := 5) hB hb2 (bs' := bs ++ [.int .u8 c]) (by simpa using hown') hT.ne
  · exact ((hb1.alloc (by have := hb1.size; omega) _).grown hgrow (by have := hb1.size; simp; omega) (fun k hk => (hown.lt k hk).1)).setCell (p := ⟨b, 1, none⟩) hB _

set_option maxHeartbeats 2000000 in
set_option maxRecDepth 100000 in
theorem text (T : TypeId) (hT : Lies T) (B b : Nat) (bs : List Value) (s : ByteArray) (w : World) (h : Lib.IsBuilderF T 5 B b bs w) (hlen : bs.length + s.size ≤ 140737488355328) (hBw : B ≤ w.heap.size) :
    Calls Tryz.prog 39 #[.pointer (some ⟨b, 0, none⟩), .string s] w fun e w' => e = .returned (.tuple #[.int .i64 s.size, .nilIface]) ∧ Wrote T B b (bs ++ Lib.strCells s) w w' := by
  obtain ⟨i0, hi, hz0, hz1, hz2⟩ := info_parts info_byte
  go_enter Tryz.func39, Tryz.ntmps39
  go_wp2_with (go_at_call 69; refine (check T hT B b bs _ h).mono ?_)
  rintro e w1 ⟨rfl, h1, hb1, hk1⟩
  obtain ⟨hB, v, hbk, hown, hne⟩ := h1
  have c0 : w1.cell? ⟨b, 0, none⟩ = some (.pointer (some ⟨b, 0, none⟩)) := by rw [Lib.cell_of_heap hbk]; rfl
  have c1 : w1.cell? ⟨b, 1, none⟩ = some v := by rw [Lib.cell_of_heap hbk]; rfl
  go_wp2_with (at_builtin; refine Lib.wpList_append_own_stringF _ rfl _ _ 58 9 rfl B 5 i0 row_byte str_t hi hz0 hz1 hz2 _ _ _ rfl hown s rfl ?c3 ?c4 ?c5 ?_)
  case c3 => unfold maxLen; omega
  case c4 => omega
  case c5 => have := hb1.size; omega
  intro v' w2 hown' hgrow _
  have hlt := at_lt hbk
  have hb2 : w2.heap[b]? = some (.cells #[.pointer (some ⟨b, 0, none⟩), v] T (0, 0)) := by
    rw [hgrow.block b hlt (fun e => hne e.symm)]
    exact hbk
  have d0 : w2.cell? ⟨b, 0, none⟩ = some (.pointer (some ⟨b, 0, none⟩)) := by rw [Lib.cell_of_heap hb2]; rfl
  have d1 : w2.cell? ⟨b, 1, none⟩ = some v := by rw [Lib.cell_of_heap hb2]; rfl
  have f1 : w2.frozen? ⟨b, 1, none⟩ = false := Lib.frozen_of_heap hb2 1
  obtain ⟨ao, n', cap, rfl⟩ : ∃ ao n' cap, v' = .slice ao n' cap := by
    rcases hown'.2 with ⟨hv, _⟩ | ⟨g, cap, cur, fz, hv, _⟩
    · exact ⟨_, _, _, hv⟩
    · exact ⟨_, _, _, hv⟩
  go_wp2
  go_ret2
  refine ⟨rfl, ?_, ?_, (hk1.grown hgrow (Lib.ownsRowF_kind hown)).setCell ⟨b, 1, none⟩ rfl _⟩
  · exact Lib.BuilderAtF.put (T := T) (e := 5) hB hb2 (bs' := bs ++ Lib.strCells s) (by simpa [Lib.strCells_length] using hown') hT.ne
  · exact (hb1.grown hgrow (by have := hb1.size; omega) (fun k hk => (hown.lt k hk).1)).setCell (p := ⟨b, 1, none⟩) hB _

set_option maxHeartbeats 4000000 in
set_option maxRecDepth 100000 in
theorem put2 (B : Nat) (v : Value) (n : Nat) (xs : List Value) (r : Int) (h0 : 128 ≤ r) (h1 : r ≤ 2047) (w : World) (hown : w.ownsRowF B 5 1 v n xs) (hlen : n + 4 ≤ 140737488355328) (hBw : B ≤ w.heap.size) :
    Calls Tryz.prog 118 #[v, .int .i32 r] w fun e w' => ∃ v', e = .returned v' ∧ w'.ownsRowF B 5 1 v' (n + 2) (xs ++ [.int .u8 (192 + r / 64), .int .u8 (128 + r % 64)]) ∧ ∃ o, (w.alloc o).grownBy w' v.ownBlock := by
  obtain ⟨i0, hi, hz0, hz1, hz2⟩ := info_parts info_byte
  go_enter Tryz.func118, Tryz.ntmps118
  go_wp2_with (at_builtin; refine wpList_append_ownF _ rfl _ _ 58 rfl B 5 i0 (.int .u8 0) 1 1 row_byte hi hz0 hz1 hz2 rfl (by decide) _ _ _ rfl (hown.alloc _) ⟨w.heap.size, 0, none⟩ 2 2 [.int .u8 (192 + r / 64), .int .u8 (128 + r % 64)] rfl rfl ?c1 ?c2 ?c3 ?c4 ?c5 ?_)
  case c1 =>
    intro j u hj
    match j, hj with
    | 0, hj => simp at hj; subst hj; simp [Addr.add]
    | 1, hj => simp at hj; subst hj; simp [Addr.add]
    | (j + 2), hj => simp at hj
  case c2 => intro u hu; simp at hu; rcases hu with rfl | rfl <;> rfl
  case c3 => unfold maxLen; omega
  case c4 => omega
  case c5 => simp; omega
  intro v' w2 hown' hgrow _
  go_wp2
  go_ret
  exact ⟨_, rfl, hown', _, hgrow⟩

set_option maxHeartbeats 4000000 in
set_option maxRecDepth 100000 in
theorem put3 (B : Nat) (v : Value) (n : Nat) (xs : List Value) (r : Int) (h : (2048 ≤ r ∧ r < 55296) ∨ (57343 < r ∧ r ≤ 65535)) (w : World) (hown : w.ownsRowF B 5 1 v n xs) (hlen : n + 4 ≤ 140737488355328) (hBw : B ≤ w.heap.size) :
    Calls Tryz.prog 118 #[v, .int .i32 r] w fun e w' => ∃ v', e = .returned v' ∧ w'.ownsRowF B 5 1 v' (n + 3) (xs ++ [.int .u8 (224 + r / 4096), .int .u8 (128 + r / 64 % 64), .int .u8 (128 + r % 64)]) ∧ ∃ o, (w.alloc o).grownBy w' v.ownBlock := by
  obtain ⟨i0, hi, hz0, hz1, hz2⟩ := info_parts info_byte
  rcases h with ⟨h0, h1⟩ | ⟨h0, h1⟩
  all_goals
    go_enter Tryz.func118, Tryz.ntmps118
    go_wp2_with (at_builtin; refine wpList_append_ownF _ rfl _ _ 58 rfl B 5 i0 (.int .u8 0) 1 1 row_byte hi hz0 hz1 hz2 rfl (by decide) _ _ _ rfl (hown.alloc _) ⟨w.heap.size, 0, none⟩ 3 3 [.int .u8 (224 + r / 4096), .int .u8 (128 + r / 64 % 64), .int .u8 (128 + r % 64)] rfl rfl ?c1 ?c2 ?c3 ?c4 ?c5 ?_)
    case c1 =>
      intro j u hj
      match j, hj with
      | 0, hj => simp at hj; subst hj; simp [Addr.add]
      | 1, hj => simp at hj; subst hj; simp [Addr.add]
      | 2, hj => simp at hj; subst hj; simp [Addr.add]
      | (j + 3), hj => simp at hj
    case c2 => intro u hu; simp at hu; rcases hu with rfl | rfl | rfl <;> rfl
    case c3 => unfold maxLen; omega
    case c4 => omega
    case c5 => simp; omega
    intro v' w2 hown' hgrow _
    go_wp2
    go_ret
    exact ⟨_, rfl, hown', _, hgrow⟩

set_option maxHeartbeats 4000000 in
set_option maxRecDepth 100000 in
theorem put4 (B : Nat) (v : Value) (n : Nat) (xs : List Value) (r : Int) (h0 : 65536 ≤ r) (h1 : r ≤ 1114111) (w : World) (hown : w.ownsRowF B 5 1 v n xs) (hlen : n + 4 ≤ 140737488355328) (hBw : B ≤ w.heap.size) :
    Calls Tryz.prog 118 #[v, .int .i32 r] w fun e w' => ∃ v', e = .returned v' ∧ w'.ownsRowF B 5 1 v' (n + 4) (xs ++ [.int .u8 (240 + r / 262144), .int .u8 (128 + r / 4096 % 64), .int .u8 (128 + r / 64 % 64), .int .u8 (128 + r % 64)]) ∧ ∃ o, (w.alloc o).grownBy w' v.ownBlock := by
  obtain ⟨i0, hi, hz0, hz1, hz2⟩ := info_parts info_byte
  go_enter Tryz.func118, Tryz.ntmps118
  go_wp2_with (at_builtin; refine wpList_append_ownF _ rfl _ _ 58 rfl B 5 i0 (.int .u8 0) 1 1 row_byte hi hz0 hz1 hz2 rfl (by decide) _ _ _ rfl (hown.alloc _) ⟨w.heap.size, 0, none⟩ 4 4 [.int .u8 (240 + r / 262144), .int .u8 (128 + r / 4096 % 64), .int .u8 (128 + r / 64 % 64), .int .u8 (128 + r % 64)] rfl rfl ?c1 ?c2 ?c3 ?c4 ?c5 ?_)
  case c1 =>
    intro j u hj
    match j, hj with
    | 0, hj => simp at hj; subst hj; simp [Addr.add]
    | 1, hj => simp at hj; subst hj; simp [Addr.add]
    | 2, hj => simp at hj; subst hj; simp [Addr.add]
    | 3, hj => simp at hj; subst hj; simp [Addr.add]
    | (j + 4), hj => simp at hj
  case c2 => intro u hu; simp at hu; rcases hu with rfl | rfl | rfl | rfl <;> rfl
  case c3 => unfold maxLen; omega
  case c4 => omega
  case c5 => simp; omega
  intro v' w2 hown' hgrow _
  go_wp2
  go_ret
  exact ⟨_, rfl, hown', _, hgrow⟩

theorem ptr_byte : Tryz.prog.underlying 97 = some (.pointer 5) := by kernel_rfl
theorem cells_byte : Tryz.prog.cellsOf 5 = 1 := by kernel_rfl

set_option maxHeartbeats 4000000 in
set_option maxRecDepth 100000 in
theorem rune1 (B : Nat) (v : Value) (n : Nat) (xs : List Value) (r : Int) (h0 : 0 ≤ r) (h1 : r ≤ 127) (w : World) (hown : w.ownsRowF B 5 1 v n xs) (hlen : n + 4 ≤ 140737488355328) (hBw : B ≤ w.heap.size) :
    Calls Tryz.prog 88 #[v, .int .i32 r] w fun e w' => ∃ v', e = .returned v' ∧ w'.ownsRowF B 5 1 v' (n + 1) (xs ++ [.int .u8 r]) ∧ ∃ o, (w.alloc o).grownBy w' v.ownBlock := by
  obtain ⟨i0, hi, hz0, hz1, hz2⟩ := info_parts info_byte
  go_enter Tryz.func88, Tryz.ntmps88
  go_wp2_with (at_builtin; refine wpList_append_ownF _ rfl _ _ 58 rfl B 5 i0 (.int .u8 0) 1 1 row_byte hi hz0 hz1 hz2 rfl (by decide) _ _ _ rfl (hown.alloc _) ⟨w.heap.size, 0, none⟩ 1 1 [.int .u8 r] rfl rfl ?c1 ?c2 ?c3 ?c4 ?c5 ?_)
  all_goals first
    | (intro v' w2 hown' hgrow _; go_wp2; go_ret; exact ⟨_, rfl, hown', _, hgrow⟩)
    | (unfold maxLen; omega)
    | omega
    | (simp; omega)
    | rfl
    | (intro u hu; simp at hu; subst hu; rfl)
    | (intro j u hj
       match j, hj with
       | 0, hj => simp at hj; subst hj; simp [Addr.add]
       | (j + 1), hj => simp at hj)

set_option maxHeartbeats 4000000 in
set_option maxRecDepth 100000 in
/-- A sign's bytes go in behind what a row of bytes holds. -/
theorem rune (B : Nat) (v : Value) (n : Nat) (xs : List Value) (r : Int) (hr : 0 ≤ r ∧ r ≤ 1114111 ∧ (r < 55296 ∨ 57343 < r)) (w : World) (hown : w.ownsRowF B 5 1 v n xs) (hlen : n + 4 ≤ 140737488355328) (hBw : B ≤ w.heap.size) :
    Calls Tryz.prog 88 #[v, .int .i32 r] w fun e w' => ∃ v', e = .returned v' ∧ w'.ownsRowF B 5 1 v' (n + (Lib.runeCells r).length) (xs ++ Lib.runeCells r) ∧ ∃ o, (w.alloc o).grownBy w' v.ownBlock := by
  by_cases c : r ≤ 127
  · rw [show Lib.runeCells r = [.int .u8 r] by simp [Lib.runeCells, Lib.encodeRuneZ_one hr.1 c]]
    exact rune1 B v n xs r hr.1 c w hown hlen hBw
  have key : Calls Tryz.prog 118 #[v, .int .i32 r] w fun e w' => ∃ v', e = .returned v' ∧ w'.ownsRowF B 5 1 v' (n + (Lib.runeCells r).length) (xs ++ Lib.runeCells r) ∧ ∃ o, (w.alloc o).grownBy w' v.ownBlock := by
    by_cases c1 : r ≤ 2047
    · rw [show Lib.runeCells r = [.int .u8 (192 + r / 64), .int .u8 (128 + r % 64)] by simp [Lib.runeCells, Lib.encodeRuneZ_two (by omega) c1]]
      exact put2 B v n xs r (by omega) c1 w hown hlen hBw
    by_cases c4 : r ≤ 65535
    · have h3 : (2048 ≤ r ∧ r < 55296) ∨ (57343 < r ∧ r ≤ 65535) := by omega
      rw [show Lib.runeCells r = [.int .u8 (224 + r / 4096), .int .u8 (128 + r / 64 % 64), .int .u8 (128 + r % 64)] by simp [Lib.runeCells, Lib.encodeRuneZ_three h3]]
      exact put3 B v n xs r h3 w hown hlen hBw
    · rw [show Lib.runeCells r = [.int .u8 (240 + r / 262144), .int .u8 (128 + r / 4096 % 64), .int .u8 (128 + r / 64 % 64), .int .u8 (128 + r % 64)] by simp [Lib.runeCells, Lib.encodeRuneZ_four (by omega) hr.2.1]]
      exact put4 B v n xs r (by omega) hr.2.1 w hown hlen hBw
  obtain ⟨q0, q1, _⟩ := hr
  have q2 : 127 < r := by omega
  clear c hown hlen hBw
  go_enter Tryz.func88, Tryz.ntmps88
  go_wp2_with (go_at_call 118; refine key.mono ?_)
  rintro e w1 ⟨v', rfl, h1, o, h2⟩
  go_wp2
  go_ret
  exact ⟨_, rfl, h1, o, h2⟩

set_option maxHeartbeats 4000000 in
set_option maxRecDepth 100000 in
theorem sign (T : TypeId) (hT : Lies T) (B b : Nat) (bs : List Value) (r : Int) (hr : 0 ≤ r ∧ r ≤ 1114111 ∧ (r < 55296 ∨ 57343 < r)) (w : World) (h : Lib.IsBuilderF T 5 B b bs w) (hlen : bs.length + 4 ≤ 140737488355328) (hBw : B ≤ w.heap.size) :
    Calls Tryz.prog 60 #[.pointer (some ⟨b, 0, none⟩), .int .i32 r] w fun e w' => e = .returned (.tuple #[.int .i64 (Lib.runeCells r).length, .nilIface]) ∧ Wrote T B b (bs ++ Lib.runeCells r) w w' := by
  have hk4 := Lib.runeCells_le r
  have hrr := Lib.hid hr
  clear hr
  go_enter Tryz.func60, Tryz.ntmps60
  go_wp2_with (go_at_call 69; refine (check T hT B b bs _ h).mono ?_)
  rintro e w1 ⟨rfl, h1, hb1, hk1⟩
  obtain ⟨hB, v, hbk, hown, hne⟩ := h1
  obtain ⟨ao, cap, rfl⟩ : ∃ ao cap, v = .slice ao bs.length cap := by
    rcases hown.2 with ⟨hv, h0⟩ | ⟨g, cap, cur, fz, hv, _⟩
    · exact ⟨none, 0, by rw [hv, h0]⟩
    · exact ⟨_, _, hv⟩
  have c0 : w1.cell? ⟨b, 0, none⟩ = some (.pointer (some ⟨b, 0, none⟩)) := by rw [Lib.cell_of_heap hbk]; rfl
  have c1 : w1.cell? ⟨b, 1, none⟩ = some (.slice ao bs.length cap) := by rw [Lib.cell_of_heap hbk]; rfl
  go_wp2_with (go_at_call 88; refine (rune B _ bs.length bs r hrr.out _ hown hlen (by have := hb1.size; omega)).mono ?_)
  rintro e w2 ⟨v', rfl, hown', o, hgrow⟩
  have hlt := at_lt hbk
  have hb2 : w2.heap[b]? = some (.cells #[.pointer (some ⟨b, 0, none⟩), .slice ao bs.length cap] T (0, 0)) := by
    rw [hgrow.block b (by simp; omega) (fun e => hne e.symm), Lib.alloc_old w1 _ b hlt]
    exact hbk
  have d0 : w2.cell? ⟨b, 0, none⟩ = some (.pointer (some ⟨b, 0, none⟩)) := by rw [Lib.cell_of_heap hb2]; rfl
  have d1 : w2.cell? ⟨b, 1, none⟩ = some (.slice ao bs.length cap) := by rw [Lib.cell_of_heap hb2]; rfl
  have f1 : w2.frozen? ⟨b, 1, none⟩ = false := Lib.frozen_of_heap hb2 1
  obtain ⟨g, cap', rfl⟩ : ∃ g cap', v' = .slice (some ⟨g, 0, none⟩) (bs.length + (Lib.runeCells r).length) cap' := by
    rcases hown'.2 with ⟨_, h0⟩ | ⟨g, cap', cur, fz, hv, _⟩
    · omega
    · exact ⟨g, cap', hv⟩
  go_wp2
  go_ret2
  refine ⟨?_, ?_, ?_, ((hk1.alloc _).grown hgrow (Lib.ownsRowF_kind (hown.alloc _))).setCell ⟨b, 1, none⟩ rfl _⟩
  · have e : ((bs.length : Int) + ((Lib.runeCells r).length : Int) - (bs.length : Int)) = ((Lib.runeCells r).length : Int) := by omega
    simp [e]
  · exact Lib.BuilderAtF.put (T := T) (e := 5) hB hb2 (bs' := bs ++ Lib.runeCells r) (by simpa using hown') hT.ne
  · exact ((hb1.alloc (by have := hb1.size; omega) _).grown hgrow (by have := hb1.size; simp; omega) (fun k hk => (hown.lt k hk).1)).setCell (p := ⟨b, 1, none⟩) hB _

set_option maxHeartbeats 2000000 in
set_option maxRecDepth 100000 in
/-- What a builder holds. -/
theorem got (T : TypeId) (B b : Nat) (l : List UInt8) (w : World) (h : Lib.IsBuilderF T 5 B b (Lib.byteCells l) w) (hBw : B ≤ w.heap.size) :
    Calls Tryz.prog 32 #[.pointer (some ⟨b, 0, none⟩)] w fun e w' => e = .returned (.string ⟨l.toArray⟩) ∧ Below B w w' := by
  obtain ⟨p, hAt⟩ : ∃ p, Lib.BuilderAtF T 5 B b p (Lib.byteCells l) w := by
    rcases h with h | h
    · exact ⟨_, h⟩
    · exact ⟨_, h⟩
  clear h
  obtain ⟨hB, v, hbk, hown, hne⟩ := hAt
  rw [Lib.byteCells_length] at hown
  have hlt := at_lt hbk
  by_cases hl : l = []
  · subst hl
    have hUS : ∀ (W : World) (q : Option Addr), (Builtin.unsafeString_ #[97, 3] 9 #[.pointer q, .int .i64 0]).run Tryz.prog W = .ok (.string .empty) W := fun W q => Lib.run_unsafeString_none W _ _ _ q
    rcases hown.2 with ⟨rfl, _⟩ | ⟨g, cap, cur, fz, rfl, hbg, hg, _, _, _, _, _⟩
    · have c1 : w.drew.cell? ⟨b, 1, none⟩ = some (.slice none 0 0) := by
        have : w.drew.heap[b]? = some (.cells #[p, .slice none 0 0] T (0, 0)) := hbk
        rw [Lib.cell_of_heap this]; rfl
      have hSD : (Builtin.unsafeSliceData_ #[58] 97 #[.slice none 0 0]).run Tryz.prog w.drew = .ok (.pointer none) w.drew := rfl
      clear hown
      go_enter Tryz.func32, Tryz.ntmps32
      go_wp2
      go_region
      all_goals (go_wp2; go_ret; exact ⟨rfl, Below.drew (Below.refl B w)⟩)
    · by_cases hc0 : cap = 0
      · subst hc0
        have c1 : w.drew.cell? ⟨b, 1, none⟩ = some (.slice (some ⟨g, 0, none⟩) 0 0) := by
          have : w.drew.heap[b]? = some (.cells #[p, .slice (some ⟨g, 0, none⟩) 0 0] T (0, 0)) := hbk
          rw [Lib.cell_of_heap this]; rfl
        have hSD : (Builtin.unsafeSliceData_ #[58] 97 #[.slice (some ⟨g, 0, none⟩) 0 0]).run Tryz.prog w.drew = .ok (.pointer (some ⟨w.drew.heap.size, 0, none⟩)) (w.drew.alloc (.view ⟨g, 0, none⟩ 5)) :=
          Lib.run_unsafeSliceData_zero w.drew _ _ 5 ptr_byte ⟨g, 0, none⟩ 0 (5, cur.size) (by have hg' : w.drew.heap[g]? = some (.cells cur 5 fz) := hg; simp [World.shape?, hg'])
        have c2 : (w.drew.alloc (.view ⟨g, 0, none⟩ 5)).cell? ⟨b, 1, none⟩ = some (.slice (some ⟨g, 0, none⟩) 0 0) := by
          have : (w.drew.alloc (.view ⟨g, 0, none⟩ 5)).heap[b]? = _ := (Lib.alloc_old w.drew _ b hlt).trans hbk
          rw [Lib.cell_of_heap this]; rfl
        have c3 : (w.alloc (.view ⟨g, 0, none⟩ 5)).drew.cell? ⟨b, 1, none⟩ = some (.slice (some ⟨g, 0, none⟩) 0 0) := c2
        have c0 : w.cell? ⟨b, 1, none⟩ = some (.slice (some ⟨g, 0, none⟩) 0 0) := c1
        clear hown
        go_enter Tryz.func32, Tryz.ntmps32
        go_wp2
        go_region
        all_goals (go_wp2; go_ret; exact ⟨rfl, (Below.drew (Below.refl B w)).alloc hBw _⟩)
      · have c1 : w.drew.cell? ⟨b, 1, none⟩ = some (.slice (some ⟨g, 0, none⟩) 0 cap) := by
          have : w.drew.heap[b]? = some (.cells #[p, .slice (some ⟨g, 0, none⟩) 0 cap] T (0, 0)) := hbk
          rw [Lib.cell_of_heap this]; rfl
        have hSD : (Builtin.unsafeSliceData_ #[58] 97 #[.slice (some ⟨g, 0, none⟩) 0 cap]).run Tryz.prog w.drew = .ok (.pointer (some ⟨g, 0, none⟩)) w.drew :=
          Lib.run_unsafeSliceData_row _ _ _ _ _ _ hc0
        clear hc0 hown
        go_enter Tryz.func32, Tryz.ntmps32
        go_wp2
        go_region
        all_goals (go_wp2; go_ret; exact ⟨rfl, Below.drew (Below.refl B w)⟩)
  · have hl0 : l.length ≠ 0 := by simpa using hl
    obtain ⟨g, cap, cur, fz, rfl, hbg, hg, hfz, hnc, hcm, hcs, htake⟩ : ∃ g cap cur fz, v = .slice (some ⟨g, 0, none⟩) l.length cap ∧ B ≤ g ∧ w.heap[g]? = some (.cells cur 5 fz) ∧ fz.2 ≤ l.length * 1 ∧ l.length ≤ cap ∧ cap ≤ maxLen ∧ cur.size = cap * 1 ∧ cur.toList.take (l.length * 1) = Lib.byteCells l := by
      rcases hown.2 with ⟨_, hz⟩ | ⟨g, cap, cur, fz, hv, r⟩
      · exact absurd hz hl0
      · exact ⟨g, cap, cur, fz, hv, r⟩
    have c1 : w.drew.cell? ⟨b, 1, none⟩ = some (.slice (some ⟨g, 0, none⟩) l.length cap) := by
      have : w.drew.heap[b]? = some (.cells #[p, .slice (some ⟨g, 0, none⟩) l.length cap] T (0, 0)) := hbk
      rw [Lib.cell_of_heap this]; rfl
    have hSD : (Builtin.unsafeSliceData_ #[58] 97 #[.slice (some ⟨g, 0, none⟩) l.length cap]).run Tryz.prog w.drew = .ok (.pointer (some ⟨g, 0, none⟩)) w.drew :=
      Lib.run_unsafeSliceData_row _ _ _ _ _ _ (by omega)
    have hUS : (Builtin.unsafeString_ #[97, 3] 9 #[.pointer (some ⟨g, 0, none⟩), .int .i64 l.length]).run Tryz.prog w.drew = .ok (.string ⟨l.toArray⟩) (w.drew.freeze ⟨g, 0, none⟩ l.length) := by
      refine Lib.run_unsafeString_row w.drew 97 3 9 5 ptr_byte cells_byte g cur.size (by have hg' : w.drew.heap[g]? = some (.cells cur 5 fz) := hg; simp [World.shape?, hg']) l hl (by omega) (by unfold maxLen at hcm; omega) ?_
      intro j x hx
      have := hown.cells (g := g) rfl j (.int .u8 x.toNat) (by simp [Lib.byteCells, hx])
      exact this
    clear hown htake hcs hnc hfz
    go_enter Tryz.func32, Tryz.ntmps32
    go_wp2
    go_region
    all_goals (go_wp2; go_ret; exact ⟨rfl, Lib.below_freeze (Below.drew (Below.refl B w)) (p := ⟨g, 0, none⟩) hbg _⟩)
end Go.Proofs.YtmkdjgmdfhagfaaGreatDoor.Bld

/- The reference's reading of the signs of a text (First, Printable, Check) answers, for every text, what plain functions on its bytes answer; no conditions. -/
namespace Go.Proofs.YtmkdjgmdfhagfaaGreatDoor.Utf
open Go.RowKit Go.Proofs.YtmkdjgmdfhagfaaGreatDoor.PX Go.Proofs.YtmkdjgmdfhagfaaGreatDoorW.PrintWords Go.Proofs.YtmkdjgmdfhagfaaGreatDoorW.PrintLast

/-- Byte number i, or 0 behind the end. -/
def at_ (l : List UInt8) (i : Nat) : Nat := (l.getD i 0).toNat
theorem at_lt (l : List UInt8) (i : Nat) : at_ l i < 256 := UInt8.toNat_lt _

/-- The first sign of a text and how many bytes it has; -1: none stands there. -/
def dec (l : List UInt8) : Int × Nat :=
  if l = [] then (-1, 0) else
  if (Lib.decodeN l.length (at_ l 0) (at_ l 1) (at_ l 2) (at_ l 3)).1 = 65533 ∧ (Lib.decodeN l.length (at_ l 0) (at_ l 1) (at_ l 2) (at_ l 3)).2 < 3 then
    (-1, (Lib.decodeN l.length (at_ l 0) (at_ l 1) (at_ l 2) (at_ l 3)).2)
  else (((Lib.decodeN l.length (at_ l 0) (at_ l 1) (at_ l 2) (at_ l 3)).1 : Int), (Lib.decodeN l.length (at_ l 0) (at_ l 1) (at_ l 2) (at_ l 3)).2)

/-- May a sign be printed? -/
def prt (n : Int) : Bool :=
  n == 9 || n == 10 || n == 13 || n == 133 || (decide (32 ≤ n) && decide (n ≤ 126)) || (decide (160 ≤ n) && decide (n ≤ 55295)) ||
  (decide (57344 ≤ n) && decide (n ≤ 65533) && n != 65279) || (decide (65536 ≤ n) && decide (n ≤ 1114111))

theorem bt_at_ (s : ByteArray) (i : Nat) : bt s (i : Int) = (at_ s.data.toList i : Int) := by
  unfold bt at_
  have hs : s.size = s.data.toList.length := by rw [Array.length_toList]; rfl
  by_cases h : i < s.size
  · rw [dif_pos (by simpa using h)]
    have : s.data.toList.getD i 0 = s[i] := by
      rw [List.getD_eq_getElem?_getD, List.getElem?_eq_getElem (by omega)]; rfl
    rw [this]; rfl
  · rw [dif_neg (by simpa using h), List.getD_eq_getElem?_getD, List.getElem?_eq_none (by omega)]; rfl

theorem guess_done (k : Nat) (s : ByteArray) (m n i : Int) (h : ¬ i < m) : grommetref01_guess.l0 (k + 1) s m n i = some n := by
  simp only [grommetref01_guess.l0]; rw [if_neg h]

theorem guess_more (k : Nat) (s : ByteArray) (m n i : Int) (h : i < m) (h0 : 0 ≤ i) (h1 : i < (s.size : Int)) (h2 : i < 1000) (h3 : -1000000000 ≤ n) (h4 : n ≤ 1000000000) :
    grommetref01_guess.l0 (k + 1) s m n i = grommetref01_guess.l0 k s m (n * 64 + bt s i - 128) (i + 1) := by
  have := bt_range s i
  simp only [grommetref01_guess.l0]; rw [if_pos h, if_pos h0, if_pos h1]
  congr 1 <;> (unfold wrap64; omega)

theorem guess1 (k : Nat) (s : ByteArray) (h : 1 ≤ s.size) : grommetref01_guess.f (k + 4) s 1 = some (bt s 0) := by
  have := bt_range s 0
  unfold grommetref01_guess.f
  simp only [Option.bind_some, List.length_cons, List.length_nil]
  rw [if_pos (by omega), if_pos (by omega), if_pos (by omega), guess_done _ _ _ _ _ (by omega)]
  congr 1; simp [rd]; unfold wrap64; omega

theorem guess2 (k : Nat) (s : ByteArray) (h : 2 ≤ s.size) : grommetref01_guess.f (k + 4) s 2 = some ((bt s 0 - 192) * 64 + bt s 1 - 128) := by
  have := bt_range s 0; have := bt_range s 1
  unfold grommetref01_guess.f
  simp only [Option.bind_some, List.length_cons, List.length_nil]
  rw [if_pos (by omega), if_pos (by omega), if_pos (by omega)]
  have e : wrap64 (wrap64 (bt s 0) - rd [0, 0, 192, 224, 240] 2) = bt s 0 - 192 := by simp [rd]; unfold wrap64; omega
  rw [e, guess_more _ _ _ _ _ (by omega) (by omega) (by omega) (by omega) (by omega) (by omega), guess_done _ _ _ _ _ (by omega)]

theorem guess3 (k : Nat) (s : ByteArray) (h : 3 ≤ s.size) : grommetref01_guess.f (k + 4) s 3 = some (((bt s 0 - 224) * 64 + bt s 1 - 128) * 64 + bt s 2 - 128) := by
  have := bt_range s 0; have := bt_range s 1; have := bt_range s 2
  unfold grommetref01_guess.f
  simp only [Option.bind_some, List.length_cons, List.length_nil]
  rw [if_pos (by omega), if_pos (by omega), if_pos (by omega)]
  have e : wrap64 (wrap64 (bt s 0) - rd [0, 0, 192, 224, 240] 3) = bt s 0 - 224 := by simp [rd]; unfold wrap64; omega
  rw [e, guess_more _ _ _ _ _ (by omega) (by omega) (by omega) (by omega) (by omega) (by omega), guess_more _ _ _ _ _ (by omega) (by omega) (by omega) (by omega) (by omega) (by omega),
    guess_done _ _ _ _ _ (by omega)]
  rfl

theorem guess4 (k : Nat) (s : ByteArray) (h : 4 ≤ s.size) : grommetref01_guess.f (k + 4) s 4 = some ((((bt s 0 - 240) * 64 + bt s 1 - 128) * 64 + bt s 2 - 128) * 64 + bt s 3 - 128) := by
  have := bt_range s 0; have := bt_range s 1; have := bt_range s 2; have := bt_range s 3; have := bt_range s (1 + 1)
  unfold grommetref01_guess.f
  simp only [Option.bind_some, List.length_cons, List.length_nil]
  rw [if_pos (by omega), if_pos (by omega), if_pos (by omega)]
  have e : wrap64 (wrap64 (bt s 0) - rd [0, 0, 192, 224, 240] 4) = bt s 0 - 240 := by simp [rd]; unfold wrap64; omega
  rw [e, guess_more _ _ _ _ _ (by omega) (by omega) (by omega) (by omega) (by omega) (by omega), guess_more _ _ _ _ _ (by omega) (by omega) (by omega) (by omega) (by omega) (by omega),
    guess_more _ _ _ _ _ (by omega) (by omega) (by omega) (by omega) (by omega) (by omega), guess_done _ _ _ _ _ (by omega)]
  rfl

def sgn (n : Int) : Bool := decide (0 ≤ n) && decide (n ≤ 1114111) && (decide (n < 55296) || decide (57343 < n))
theorem sign_eq (n : Int) : grommetref01_Sign.f n = some (sgn n) := by
  unfold grommetref01_Sign.f sgn
  by_cases h : 0 ≤ n <;> by_cases h1 : n ≤ 1114111 <;> by_cases h2 : n < 55296 <;> simp [h, h1, h2]

/-- A sign's bytes, as numbers. -/
def byt (n : Int) : List Int :=
  if n < 128 then [n] else if n < 2048 then [192 + n / 64, 128 + n % 64] else
  if n < 65536 then [224 + n / 4096, 128 + n / 64 % 64, 128 + n % 64] else [240 + n / 262144, 128 + n / 4096 % 64, 128 + n / 64 % 64, 128 + n % 64]
theorem bytes_eq (n : Int) (h0 : 0 ≤ n) (h1 : n ≤ 1114111) : grommetref01_bytes.f n = some (byt n) := by
  unfold grommetref01_bytes.f byt
  have e1 : wrap64 (Int.tdiv n 64) = n / 64 := by rw [Int.tdiv_eq_ediv_of_nonneg h0]; unfold wrap64; omega
  have e2 : wrap64 (Int.tdiv n 4096) = n / 4096 := by rw [Int.tdiv_eq_ediv_of_nonneg h0]; unfold wrap64; omega
  have e3 : wrap64 (Int.tdiv n 262144) = n / 262144 := by rw [Int.tdiv_eq_ediv_of_nonneg h0]; unfold wrap64; omega
  have m1 : Int.tmod n 64 = n % 64 := Int.tmod_eq_emod_of_nonneg h0
  have m2 : Int.tmod (n / 64) 64 = n / 64 % 64 := Int.tmod_eq_emod_of_nonneg (by omega)
  have m3 : Int.tmod (n / 4096) 64 = n / 4096 % 64 := Int.tmod_eq_emod_of_nonneg (by omega)
  rw [e1, e2, e3, m1, m2, m3]
  by_cases a : n < 128
  · rw [if_pos a, if_pos a]; congr 2; omega
  rw [if_neg a, if_neg a]
  by_cases b : n < 2048
  · rw [if_pos b, if_pos b]; congr 2
    · unfold wrap64; omega
    · congr 1; unfold wrap64; omega
  rw [if_neg b, if_neg b]
  by_cases c : n < 65536
  · rw [if_pos c, if_pos c]; congr 2
    · unfold wrap64; omega
    · congr 1
      · unfold wrap64; omega
      · congr 1; unfold wrap64; omega
  rw [if_neg c, if_neg c]; congr 2
  · unfold wrap64; omega
  · congr 1
    · unfold wrap64; omega
    · congr 1
      · unfold wrap64; omega
      · congr 1; unfold wrap64; omega


theorem u8 (n : Nat) (h : n < 256) : (UInt8.ofNat n).toNat = n := by
  rw [UInt8.toNat_ofNat']; exact Nat.mod_eq_of_lt h

theorem size_list (s : ByteArray) : s.size = s.data.toList.length := by rw [Array.length_toList]; rfl

/-- Whether a text begins with given numbers, as the reference asks it. -/
theorem pre_iff (s : ByteArray) (l : List Int) (h : ∀ x ∈ l, 0 ≤ x ∧ x < 256) (hl : l.length ≤ s.size) :
    ((s.extract 0 l.length).toList == (strOfNums l).toList) = true ↔ ∀ i < l.length, bt s (i : Int) = l.getD i 0 := by
  rw [beq_iff_eq, Lib.toList_data, Lib.toList_data, Lib.extract_data]
  have hL := size_list s
  simp only [strOfNums, Nat.sub_zero, List.drop_zero]
  generalize hLL : s.data.toList = L at *
  constructor
  · intro e i hi
    rw [bt_at_, hLL]
    have e2 := congrArg (fun q => q.getD i 0) e
    simp only [List.getD_eq_getElem?_getD, List.getElem?_take, List.getElem?_map] at e2
    rw [if_pos hi, List.getElem?_eq_getElem (show i < L.length by omega), List.getElem?_eq_getElem hi] at e2
    have hx := h l[i] (List.getElem_mem hi)
    have e3 := congrArg UInt8.toNat e2
    simp only [Option.getD_some, Option.map_some] at e3
    rw [u8 _ (by omega)] at e3
    unfold at_
    rw [List.getD_eq_getElem?_getD, List.getElem?_eq_getElem (show i < L.length by omega), List.getD_eq_getElem?_getD, List.getElem?_eq_getElem hi]
    simp only [Option.getD_some]
    omega
  · intro e
    apply List.ext_getElem
    · simp; omega
    · intro i h1 h2
      have hi : i < l.length := by simpa using h2
      have e3 := e i hi
      rw [bt_at_, hLL] at e3
      have hx := h l[i] (List.getElem_mem hi)
      unfold at_ at e3
      rw [List.getD_eq_getElem?_getD, List.getElem?_eq_getElem (show i < L.length by omega), List.getD_eq_getElem?_getD, List.getElem?_eq_getElem hi] at e3
      simp only [Option.getD_some] at e3
      simp only [List.getElem_take, List.getElem_map]
      apply UInt8.toNat_inj.1
      rw [u8 _ (by omega)]
      omega

theorem byt_range (n : Int) (h0 : 0 ≤ n) (h1 : n ≤ 1114111) : ∀ x ∈ byt n, 0 ≤ x ∧ x < 256 := by
  unfold byt
  intro x hx
  split at hx
  · simp at hx; omega
  split at hx
  · simp at hx; omega
  split at hx
  · simp at hx; omega
  · simp at hx; omega

theorem begins_eq (s : ByteArray) (n : Int) (h0 : 0 ≤ n) (h1 : n ≤ 1114111) (hl : (byt n).length ≤ s.size) :
    grommetref01_begins.f s n = some (decide (∀ i < (byt n).length, bt s (i : Int) = (byt n).getD i 0)) := by
  unfold grommetref01_begins.f
  rw [bytes_eq n h0 h1]
  simp only [Option.bind_some]
  have hz : (strOfNums (byt n)).size = (byt n).length := by rw [size_list]; simp [strOfNums]
  rw [hz, if_pos (by omega), if_pos (by omega), if_pos (by omega), Int.toNat_natCast]
  congr 1
  have := pre_iff s (byt n) (byt_range n h0 h1) hl
  rw [Bool.eq_iff_iff, decide_eq_true_iff]
  exact this

theorem l0_eq (k : Nat) (s : ByteArray) (m : Int) : grommetref01_First.l0 (k + 1) s m = if m ≤ 4 then grommetref01_First.j1 k s m (decide (m ≤ (s.size : Int))) else grommetref01_First.j1 k s m false := by
  rw [grommetref01_First.l0]
theorem j1_eq (k : Nat) (s : ByteArray) (m : Int) : grommetref01_First.j1 (k + 1) s m true = ((grommetref01_guess.f k s m).bind fun t => ((grommetref01_Sign.f t).bind fun b => (if b = true then ((grommetref01_bytes.f t).bind fun l => (if (l.length : Int) = m then ((grommetref01_begins.f s t).bind fun c => (if c = true then (some (t, m)) else (grommetref01_First.l0 k s (wrap64 (m + 1))))) else (grommetref01_First.l0 k s (wrap64 (m + 1))))) else (grommetref01_First.l0 k s (wrap64 (m + 1)))))) := by
  rw [grommetref01_First.j1, if_pos rfl]

theorem first_stop (k : Nat) (s : ByteArray) (m : Int) (h : ¬ (m ≤ 4 ∧ m ≤ (s.size : Int))) : grommetref01_First.l0 (k + 2) s m = some (-1, 1) := by
  simp only [grommetref01_First.l0]
  by_cases a : m ≤ 4
  · rw [if_pos a]; have : decide (m ≤ (s.size : Int)) = false := by simp; omega
    rw [this]; simp [grommetref01_First.j1]
  · rw [if_neg a]; simp [grommetref01_First.j1]

/-- One round: the sign that so many bytes would be. -/
theorem first_round (k : Nat) (s : ByteArray) (m : Nat) (n : Int) (h : m ≤ 4) (h2 : m ≤ s.size) (hg : grommetref01_guess.f (k + 5) s m = some n) :
    grommetref01_First.l0 (k + 7) s m =
      if sgn n = true ∧ (byt n).length = m ∧ (∀ i < (byt n).length, bt s (i : Int) = (byt n).getD i 0) then some (n, (m : Int)) else grommetref01_First.l0 (k + 5) s ((m : Int) + 1) := by
  have hd : decide ((m : Int) ≤ (s.size : Int)) = true := by simp; omega
  rw [show k + 7 = k + 5 + 1 + 1 from rfl, l0_eq, if_pos (by omega), hd, j1_eq, hg]; simp only [Option.bind_some]
  rw [sign_eq]; simp only [Option.bind_some]
  have hw : wrap64 ((m : Int) + 1) = (m : Int) + 1 := by unfold wrap64; omega
  by_cases a : sgn n = true
  · rw [if_pos a]
    have a' : 0 ≤ n ∧ n ≤ 1114111 := by unfold sgn at a; simp at a; omega
    rw [bytes_eq n a'.1 a'.2]; simp only [Option.bind_some]
    by_cases b : (byt n).length = m
    · rw [if_pos (by omega), begins_eq s n a'.1 a'.2 (by omega)]
      simp only [Option.bind_some, decide_eq_true_eq, hw]
      by_cases c : ∀ i < (byt n).length, bt s (i : Int) = (byt n).getD i 0
      · rw [if_pos c, if_pos ⟨a, b, c⟩]
      · rw [if_neg c, if_neg (fun x => c x.2.2)]
    · rw [if_neg (by omega), if_neg (fun x => b x.2.1), hw]
  · rw [if_neg a, if_neg (fun x => a x.1), hw]

theorem all1 (f : Nat → Prop) : (∀ i < 1, f i) ↔ f 0 := ⟨fun h => h 0 (by omega), fun h i hi => by rcases (by omega : i = 0) with rfl; exact h⟩
theorem all2 (f : Nat → Prop) : (∀ i < 2, f i) ↔ f 0 ∧ f 1 := ⟨fun h => ⟨h 0 (by omega), h 1 (by omega)⟩, fun h i hi => by rcases (by omega : i = 0 ∨ i = 1) with rfl | rfl; exact h.1; exact h.2⟩
theorem all3 (f : Nat → Prop) : (∀ i < 3, f i) ↔ f 0 ∧ f 1 ∧ f 2 :=
  ⟨fun h => ⟨h 0 (by omega), h 1 (by omega), h 2 (by omega)⟩, fun h i hi => by rcases (by omega : i = 0 ∨ i = 1 ∨ i = 2) with rfl | rfl | rfl; exact h.1; exact h.2.1; exact h.2.2⟩
theorem all4 (f : Nat → Prop) : (∀ i < 4, f i) ↔ f 0 ∧ f 1 ∧ f 2 ∧ f 3 :=
  ⟨fun h => ⟨h 0 (by omega), h 1 (by omega), h 2 (by omega), h 3 (by omega)⟩,
    fun h i hi => by rcases (by omega : i = 0 ∨ i = 1 ∨ i = 2 ∨ i = 3) with rfl | rfl | rfl | rfl; exact h.1; exact h.2.1; exact h.2.2.1; exact h.2.2.2⟩

theorem is1 (s : ByteArray) (n : Int) : (sgn n = true ∧ (byt n).length = 1 ∧ (∀ i < (byt n).length, bt s (i : Int) = (byt n).getD i 0)) ↔ 0 ≤ n ∧ n < 128 ∧ bt s 0 = n := by
  unfold sgn byt
  by_cases c0 : n < 128
  · rw [if_pos c0]; simp only [List.length_cons, List.length_nil, Nat.zero_add, all1]; simp; omega
  rw [if_neg c0]
  by_cases c1 : n < 2048
  · rw [if_pos c1]; simp; omega
  rw [if_neg c1]
  by_cases c2 : n < 65536
  · rw [if_pos c2]; simp; omega
  rw [if_neg c2]
  simp; omega
theorem is2 (s : ByteArray) (n : Int) : (sgn n = true ∧ (byt n).length = 2 ∧ (∀ i < (byt n).length, bt s (i : Int) = (byt n).getD i 0)) ↔ 128 ≤ n ∧ n < 2048 ∧ bt s 0 = 192 + n / 64 ∧ bt s 1 = 128 + n % 64 := by
  unfold sgn byt
  by_cases c0 : n < 128
  · rw [if_pos c0]; simp; omega
  rw [if_neg c0]
  by_cases c1 : n < 2048
  · rw [if_pos c1]; simp only [List.length_cons, List.length_nil, Nat.zero_add, Nat.reduceAdd, all2]; simp; omega
  rw [if_neg c1]
  by_cases c2 : n < 65536
  · rw [if_pos c2]; simp; omega
  rw [if_neg c2]
  simp; omega
theorem is3 (s : ByteArray) (n : Int) : (sgn n = true ∧ (byt n).length = 3 ∧ (∀ i < (byt n).length, bt s (i : Int) = (byt n).getD i 0)) ↔ 2048 ≤ n ∧ n < 65536 ∧ (n < 55296 ∨ 57343 < n) ∧ bt s 0 = 224 + n / 4096 ∧ bt s 1 = 128 + n / 64 % 64 ∧ bt s 2 = 128 + n % 64 := by
  unfold sgn byt
  by_cases c0 : n < 128
  · rw [if_pos c0]; simp; omega
  rw [if_neg c0]
  by_cases c1 : n < 2048
  · rw [if_pos c1]; simp; omega
  rw [if_neg c1]
  by_cases c2 : n < 65536
  · rw [if_pos c2]; simp only [List.length_cons, List.length_nil, Nat.zero_add, Nat.reduceAdd, all3]; simp; omega
  rw [if_neg c2]
  simp; omega
theorem is4 (s : ByteArray) (n : Int) : (sgn n = true ∧ (byt n).length = 4 ∧ (∀ i < (byt n).length, bt s (i : Int) = (byt n).getD i 0)) ↔ 65536 ≤ n ∧ n ≤ 1114111 ∧ bt s 0 = 240 + n / 262144 ∧ bt s 1 = 128 + n / 4096 % 64 ∧ bt s 2 = 128 + n / 64 % 64 ∧ bt s 3 = 128 + n % 64 := by
  unfold sgn byt
  by_cases c0 : n < 128
  · rw [if_pos c0]; simp; omega
  rw [if_neg c0]
  by_cases c1 : n < 2048
  · rw [if_pos c1]; simp; omega
  rw [if_neg c1]
  by_cases c2 : n < 65536
  · rw [if_pos c2]; simp; omega
  rw [if_neg c2]
  simp only [List.length_cons, List.length_nil, Nat.zero_add, Nat.reduceAdd, all4]; simp; omega

theorem first_eq (k : Nat) (s : ByteArray) : grommetref01_First.f (k + 20) s = some ((dec s.data.toList).1, ((dec s.data.toList).2 : Int)) := by
  unfold grommetref01_First.f
  rw [Lib.toList_data]
  have hL := size_list s
  have g0 := bt_at_ s 0; have g1 := bt_at_ s 1; have g2 := bt_at_ s 2; have g3 := bt_at_ s 3
  have r0 := at_lt s.data.toList 0; have r1 := at_lt s.data.toList 1; have r2 := at_lt s.data.toList 2; have r3 := at_lt s.data.toList 3
  unfold dec
  by_cases h : s.data.toList = []
  · rw [if_pos h, if_pos h]; rfl
  rw [if_neg h, if_neg h]
  have h0 : 0 < s.data.toList.length := List.length_pos_iff.2 h
  rw [← hL] at h0 ⊢
  generalize at_ s.data.toList 0 = b0 at *
  generalize at_ s.data.toList 1 = b1 at *
  generalize at_ s.data.toList 2 = b2 at *
  generalize at_ s.data.toList 3 = b3 at *
  have e0 : bt s 0 = (b0 : Int) := g0
  have e1 : bt s 1 = (b1 : Int) := g1
  have e2 : bt s 2 = (b2 : Int) := g2
  have e3 : bt s 3 = (b3 : Int) := g3
  clear g0 g1 g2 g3 hL h
  have q1 := first_round (k + 13) s 1 _ (by omega) (by omega) (guess1 (k + 14) s (by omega))
  rw [show ((1 : Nat) : Int) = 1 from rfl] at q1
  rw [show k + 20 = k + 13 + 7 from rfl, q1]
  clear q1
  simp only [is1]
  rw [e0]
  by_cases a1 : b0 < 128
  · have hd : Lib.decodeN s.size b0 b1 b2 b3 = (b0, 1) := by simp only [Lib.decodeN]; rw [if_pos a1]
    rw [hd, if_pos ⟨by omega, by omega, trivial⟩, if_neg (by simp; omega)]; rfl
  rw [if_neg (fun h => a1 (by have := h.2.1; omega))]
  by_cases s2 : 2 ≤ s.size
  · have q1 := first_round (k + 11) s 2 _ (by omega) (by omega) (guess2 (k + 12) s (by omega))
    rw [show ((2 : Nat) : Int) = 2 from rfl] at q1
    rw [show (1 : Int) + 1 = 2 from rfl, show k + 13 + 5 = k + 11 + 7 from rfl, q1]
    clear q1
    simp only [is2]
    rw [e0, e1]
    by_cases a2 : b0 / 32 = 6 ∧ b1 / 64 = 2 ∧ b0 % 32 * 64 + b1 % 64 ≥ 128
    · have hd : Lib.decodeN s.size b0 b1 b2 b3 = (b0 % 32 * 64 + b1 % 64, 2) := by
        simp only [Lib.decodeN]
        rw [if_neg a1, if_pos (by omega), if_pos (by omega)]
      rw [hd, if_pos (by omega), if_neg (by simp; omega)]
      simp; omega
    rw [if_neg (c := (128 ≤ ((b0 : Int) - 192) * 64 + b1 - 128 ∧ _)) (by omega)]
    by_cases s3 : 3 ≤ s.size
    · have q1 := first_round (k + 9) s 3 _ (by omega) (by omega) (guess3 (k + 10) s (by omega))
      rw [show ((3 : Nat) : Int) = 3 from rfl] at q1
      rw [show (2 : Int) + 1 = 3 from rfl, show k + 11 + 5 = k + 9 + 7 from rfl, q1]
      clear q1
      simp only [is3]
      rw [e0, e1, e2]
      by_cases a3 : b0 / 16 = 14 ∧ b1 / 64 = 2 ∧ b2 / 64 = 2 ∧ (b0 % 16 * 4096 + b1 % 64 * 64 + b2 % 64 ≥ 2048 ∧ (b0 % 16 * 4096 + b1 % 64 * 64 + b2 % 64 < 55296 ∨ (57344 ≤ b0 % 16 * 4096 + b1 % 64 * 64 + b2 % 64 ∧ b0 % 16 * 4096 + b1 % 64 * 64 + b2 % 64 ≤ 1114111)))
      · have hd : Lib.decodeN s.size b0 b1 b2 b3 = (b0 % 16 * 4096 + b1 % 64 * 64 + b2 % 64, 3) := by
          simp only [Lib.decodeN]
          rw [if_neg a1, if_neg (by omega), if_pos (by omega), if_pos (by omega)]
        rw [hd, if_pos (by omega), if_neg (by simp)]
        simp; omega
      rw [if_neg (c := (2048 ≤ (((b0 : Int) - 224) * 64 + b1 - 128) * 64 + b2 - 128 ∧ _)) (by omega)]
      by_cases s4 : 4 ≤ s.size
      · have q1 := first_round (k + 7) s 4 _ (by omega) (by omega) (guess4 (k + 8) s (by omega))
        rw [show ((4 : Nat) : Int) = 4 from rfl] at q1
        rw [show (3 : Int) + 1 = 4 from rfl, show k + 9 + 5 = k + 7 + 7 from rfl, q1]
        clear q1
        simp only [is4]
        rw [e0, e1, e2, e3]
        by_cases a4 : b0 / 8 = 30 ∧ b1 / 64 = 2 ∧ b2 / 64 = 2 ∧ b3 / 64 = 2 ∧ (b0 % 8 * 262144 + b1 % 64 * 4096 + b2 % 64 * 64 + b3 % 64 ≥ 65536 ∧ b0 % 8 * 262144 + b1 % 64 * 4096 + b2 % 64 * 64 + b3 % 64 ≤ 1114111)
        · have hd : Lib.decodeN s.size b0 b1 b2 b3 = (b0 % 8 * 262144 + b1 % 64 * 4096 + b2 % 64 * 64 + b3 % 64, 4) := by
            simp only [Lib.decodeN]
            rw [if_neg a1, if_neg (by omega), if_neg (by omega), if_pos (by omega), if_pos (by omega)]
          rw [hd, if_pos (by omega), if_neg (by simp)]
          simp; omega
        rw [if_neg (c := (65536 ≤ ((((b0 : Int) - 240) * 64 + b1 - 128) * 64 + b2 - 128) * 64 + b3 - 128 ∧ _)) (by omega), show k + 7 + 5 = k + 10 + 2 from rfl, first_stop _ _ _ (by omega)]
        have : Lib.decodeN s.size b0 b1 b2 b3 = (65533, 1) := by
          simp only [Lib.decodeN]
          rw [if_neg a1]
          repeat' split
          all_goals first | rfl | (exfalso; omega)
        rw [this]; rfl
      · rw [show k + 9 + 5 = k + 12 + 2 from rfl, first_stop _ _ _ (by omega)]
        have : Lib.decodeN s.size b0 b1 b2 b3 = (65533, 1) := by
          simp only [Lib.decodeN]
          rw [if_neg a1]
          repeat' split
          all_goals first | rfl | (exfalso; omega)
        rw [this]; rfl
    · rw [show k + 11 + 5 = k + 14 + 2 from rfl, first_stop _ _ _ (by omega)]
      have : Lib.decodeN s.size b0 b1 b2 b3 = (65533, 1) := by
        simp only [Lib.decodeN]
        rw [if_neg a1]
        repeat' split
        all_goals first | rfl | (exfalso; omega)
      rw [this]; rfl
  · rw [show k + 13 + 5 = k + 16 + 2 from rfl, first_stop _ _ _ (by omega)]
    have : Lib.decodeN s.size b0 b1 b2 b3 = (65533, 1) := by
      simp only [Lib.decodeN]
      rw [if_neg a1]
      repeat' split
      all_goals first | rfl | (exfalso; omega)
    rw [this]; rfl

theorem printable_j (k : Nat) (n : Int) (b : Bool) : grommetref01_Printable.j0 (k + 1) n b = if b = true then (some true) else (if n = 65279 then (some false) else (if n ≥ 32 then (if n ≤ 126 then (some true) else (if n ≥ 160 then (if n ≤ 55295 then (some true) else (if n ≥ 57344 then (if n ≤ 65533 then (some true) else (if n ≥ 65536 then (some (decide (n ≤ 1114111))) else (some false))) else (if n ≥ 65536 then (some (decide (n ≤ 1114111))) else (some false)))) else (if n ≥ 57344 then (if n ≤ 65533 then (some true) else (if n ≥ 65536 then (some (decide (n ≤ 1114111))) else (some false))) else (if n ≥ 65536 then (some (decide (n ≤ 1114111))) else (some false))))) else (if n ≥ 160 then (if n ≤ 55295 then (some true) else (if n ≥ 57344 then (if n ≤ 65533 then (some true) else (if n ≥ 65536 then (some (decide (n ≤ 1114111))) else (some false))) else (if n ≥ 65536 then (some (decide (n ≤ 1114111))) else (some false)))) else (if n ≥ 57344 then (if n ≤ 65533 then (some true) else (if n ≥ 65536 then (some (decide (n ≤ 1114111))) else (some false))) else (if n ≥ 65536 then (some (decide (n ≤ 1114111))) else (some false)))))) := by
  rw [grommetref01_Printable.j0]

theorem printable_eq (k : Nat) (n : Int) : grommetref01_Printable.f (k + 1) n = some (prt n) := by
  unfold grommetref01_Printable.f
  simp only [printable_j]
  by_cases h1 : n = 9
  · subst h1; rfl
  by_cases h2 : n = 10
  · subst h2; rfl
  by_cases h3 : n = 13
  · subst h3; rfl
  by_cases h4 : n = 133
  · subst h4; rfl
  by_cases h5 : n = 65279
  · subst h5; rfl
  rw [if_neg h1, if_neg h2, if_neg h3, if_neg (by simpa using h4), if_neg h5]
  unfold prt
  rcases (by omega : n < 32 ∨ (32 ≤ n ∧ n ≤ 126) ∨ (126 < n ∧ n < 160) ∨ (160 ≤ n ∧ n ≤ 55295) ∨ (55295 < n ∧ n < 57344) ∨ (57344 ≤ n ∧ n ≤ 65533) ∨ (65533 < n ∧ n < 65536) ∨ 65536 ≤ n) with h | h | h | h | h | h | h | h
  all_goals
    repeat (first | rw [if_pos (by omega)] | rw [if_neg (by omega)])
    refine congrArg some (Bool.eq_iff_iff.2 ?_)
    simp only [Bool.or_eq_true, Bool.and_eq_true, decide_eq_true_eq, beq_iff_eq, bne_iff_ne, ne_eq, true_iff, Bool.false_eq_true, false_iff]
    omega

end Go.Proofs.YtmkdjgmdfhagfaaGreatDoor.Utf

/- What the program and the reference tell of the signs of a text, and where a text that is not printable ends, are one; no conditions. -/
namespace Go.Proofs.YtmkdjgmdfhagfaaGreatDoor.Utf
open Go.RowKit Go.Proofs.YtmkdjgmdfhagfaaGreatDoor.PX Go.Proofs.YtmkdjgmdfhagfaaGreatDoor.Plug Go.Proofs.YtmkdjgmdfhagfaaGreatDoorW.PrintWords Go.Proofs.YtmkdjgmdfhagfaaGreatDoorW.PrintLast

theorem decodeN_wide (n b0 b1 b2 b3 : Nat) (h : 1 ≤ n) : 1 ≤ (Lib.decodeN n b0 b1 b2 b3).2 ∧ (Lib.decodeN n b0 b1 b2 b3).2 ≤ 4 ∧ (Lib.decodeN n b0 b1 b2 b3).2 ≤ n := by
  unfold Lib.decodeN
  repeat' split
  all_goals (simp only; omega)
theorem decodeN_most (n b0 b1 b2 b3 : Nat) (h : b0 < 256) : (Lib.decodeN n b0 b1 b2 b3).1 ≤ 1114111 := by
  unfold Lib.decodeN
  repeat' split
  all_goals (simp only; omega)

theorem dec_nil : dec [] = (-1, 0) := rfl
theorem dec_wide (l : List UInt8) (h : l ≠ []) : 1 ≤ (dec l).2 ∧ (dec l).2 ≤ 4 ∧ (dec l).2 ≤ l.length := by
  have hl : 1 ≤ l.length := List.length_pos_iff.2 h
  have := decodeN_wide l.length (at_ l 0) (at_ l 1) (at_ l 2) (at_ l 3) hl
  unfold dec
  rw [if_neg h]
  split <;> exact this
theorem dec_range (l : List UInt8) : -1 ≤ (dec l).1 ∧ (dec l).1 ≤ 1114111 := by
  unfold dec
  split
  · simp
  · have := decodeN_most l.length (at_ l 0) (at_ l 1) (at_ l 2) (at_ l 3) (at_lt _ _)
    split
    · simp
    · simp only; omega

theorem decodeGo_eq (s : ByteArray) : Lib.decodeGo s = if s.data.toList = [] then (65533, 0) else Lib.decodeN s.data.toList.length (at_ s.data.toList 0) (at_ s.data.toList 1) (at_ s.data.toList 2) (at_ s.data.toList 3) := by
  unfold Lib.decodeGo
  have hL := size_list s
  have g : ∀ i, (s.get! i).toNat = at_ s.data.toList i := by
    intro i
    unfold at_
    by_cases h : i < s.size
    · rw [Utf8W.get!_of_lt s i h, List.getD_eq_getElem?_getD, List.getElem?_eq_getElem (by omega)]; rfl
    · rw [List.getD_eq_getElem?_getD, List.getElem?_eq_none (by omega)]
      cases s with
      | mk d => simp only [ByteArray.get!]; rw [getElem!_neg d i (show ¬ i < d.size from h)]; rfl
  by_cases h : s.data.toList = []
  · rw [if_pos h, if_pos (by rw [hL, h]; rfl)]
  · rw [if_neg h, if_neg (fun e => h (List.eq_nil_of_length_eq_zero (by omega))), Lib.decode_at, g, g, g, g, Nat.sub_zero, hL]

theorem prog_first (s : ByteArray) : utf_First.f s = some ((dec s.data.toList).1, ((dec s.data.toList).2 : Int)) := by
  unfold utf_First.f utf8_DecodeRuneInString.f
  simp only [Option.bind_some]
  rw [decodeGo_eq]
  unfold dec
  by_cases h : s.data.toList = []
  · rw [if_pos h, if_pos h]; rfl
  rw [if_neg h, if_neg h]
  have hm := decodeN_most s.data.toList.length (at_ s.data.toList 0) (at_ s.data.toList 1) (at_ s.data.toList 2) (at_ s.data.toList 3) (at_lt _ _)
  generalize Lib.decodeN s.data.toList.length (at_ s.data.toList 0) (at_ s.data.toList 1) (at_ s.data.toList 2) (at_ s.data.toList 3) = d at *
  obtain ⟨r, n⟩ := d
  simp only at *
  have hw : wrap64 (r : Int) = r := by unfold wrap64; omega
  by_cases a : r = 65533
  · by_cases b : n < 3
    · rw [if_pos (by omega), if_pos (by omega), if_pos ⟨a, b⟩]
    · rw [if_pos (by omega), if_neg (by omega), if_neg (fun x => b x.2)]; simp; exact hw
  · rw [if_neg (by omega), if_neg (fun x => a x.1)]; simp; exact hw

theorem prog_printable (n : Int) : utf_Printable.f n = some (prt n) := by
  unfold utf_Printable.f
  by_cases h1 : n = 9
  · subst h1; rfl
  by_cases h2 : n = 10
  · subst h2; rfl
  by_cases h3 : n = 13
  · subst h3; rfl
  by_cases h4 : n = 133
  · subst h4; rfl
  by_cases h5 : n = 65279
  · subst h5; rfl
  unfold prt
  rcases (by omega : n < 32 ∨ (32 ≤ n ∧ n ≤ 126) ∨ (126 < n ∧ n < 160) ∨ (160 ≤ n ∧ n ≤ 55295) ∨ (55295 < n ∧ n < 57344) ∨ (57344 ≤ n ∧ n ≤ 65533) ∨ (65533 < n ∧ n < 65536) ∨ 65536 ≤ n) with h | h | h | h | h | h | h | h
  all_goals
    repeat (first | rw [if_pos (by omega)] | rw [if_neg (by omega)])
    refine congrArg some (Bool.eq_iff_iff.2 ?_)
    simp only [Bool.or_eq_true, Bool.and_eq_true, decide_eq_true_eq, beq_iff_eq, bne_iff_ne, ne_eq, true_iff, Bool.false_eq_true, false_iff]
    omega

/-- Where the printable beginning of a text ends. -/
def stopF : Nat → List UInt8 → Nat → Nat
  | 0, _, i => i
  | k + 1, l, i => if i < l.length then (if prt (dec (l.drop i)).1 = true then stopF k l (i + (dec (l.drop i)).2) else i) else i
def stop (l : List UInt8) : Nat := stopF l.length l 0

theorem stopF_end (k : Nat) (l : List UInt8) (i : Nat) (h : ¬ i < l.length) : stopF k l i = i := by
  cases k with
  | zero => rfl
  | succ k => simp [stopF, h]
theorem stopF_le : ∀ (k : Nat) (l : List UInt8) (i : Nat), i ≤ l.length → stopF k l i ≤ l.length
  | 0, _, _, h => h
  | k + 1, l, i, h => by
    unfold stopF
    split
    · rename_i hi
      split
      · have := dec_wide (l.drop i) (by intro e; have := congrArg List.length e; simp at this; omega)
        refine stopF_le k l _ ?_
        simp at this; omega
      · exact h
    · exact h
theorem stop_le (l : List UInt8) : stop l ≤ l.length := stopF_le _ _ _ (Nat.zero_le _)

theorem drop_list (s : ByteArray) (i : Nat) : (s.extract i s.size).data.toList = s.data.toList.drop i := by
  rw [Lib.extract_data, List.take_of_length_le]
  rw [List.length_drop, ← size_list]
  omega

theorem prt_neg (n : Int) (h : n < 0) : prt n = false := by
  unfold prt
  simp only [Bool.or_eq_false_iff, Bool.and_eq_false_iff, decide_eq_false_iff_not, beq_eq_false_iff_ne, ne_eq, bne_eq_false_iff_eq]
  omega
/-- What is told of a text that is asked for its signs. -/
def fault (l : List UInt8) : Int × Int := if stop l < l.length then (8, (stop l : Int)) else (0, 0)
end Go.Proofs.YtmkdjgmdfhagfaaGreatDoor.Utf

/- Signs and their bytes: what is put down is read again, what is read stands there; plain laws, no conditions. -/
namespace Go.Proofs.YtmkdjgmdfhagfaaGreatDoor.Utf
/-- A sign's bytes. -/
def enc (n : Int) : List UInt8 := Lib.encodeRune n

theorem sgn_iff (n : Int) : sgn n = true ↔ 0 ≤ n ∧ n ≤ 1114111 ∧ (n < 55296 ∨ 57343 < n) := by
  unfold sgn; simp [and_assoc]

theorem dec_neg {l : List UInt8} {w : Nat} (h : l ≠ []) (e : Lib.decodeN l.length (at_ l 0) (at_ l 1) (at_ l 2) (at_ l 3) = (65533, w)) (hw : w < 3) : dec l = (-1, w) := by
  unfold dec; rw [if_neg h, e, if_pos ⟨rfl, hw⟩]
theorem dec_pos {l : List UInt8} {n w : Nat} (h : l ≠ []) (e : Lib.decodeN l.length (at_ l 0) (at_ l 1) (at_ l 2) (at_ l 3) = (n, w)) (hw : ¬ (n = 65533 ∧ w < 3)) : dec l = ((n : Int), w) := by
  unfold dec; rw [if_neg h, e, if_neg hw]

/-- What stands ahead of a text's sign: five cases. -/
theorem dec_shape (l : List UInt8) (h : l ≠ []) :
    (at_ l 0 < 128 ∧ dec l = ((at_ l 0 : Int), 1)) ∨
    (at_ l 0 / 32 = 6 ∧ 1 < l.length ∧ at_ l 1 / 64 = 2 ∧ 128 ≤ at_ l 0 % 32 * 64 + at_ l 1 % 64 ∧ dec l = (((at_ l 0 % 32 * 64 + at_ l 1 % 64 : Nat) : Int), 2)) ∨
    (at_ l 0 / 16 = 14 ∧ 2 < l.length ∧ at_ l 1 / 64 = 2 ∧ at_ l 2 / 64 = 2 ∧ 2048 ≤ at_ l 0 % 16 * 4096 + at_ l 1 % 64 * 64 + at_ l 2 % 64 ∧ (at_ l 0 % 16 * 4096 + at_ l 1 % 64 * 64 + at_ l 2 % 64 < 55296 ∨ 57344 ≤ at_ l 0 % 16 * 4096 + at_ l 1 % 64 * 64 + at_ l 2 % 64) ∧
      dec l = (((at_ l 0 % 16 * 4096 + at_ l 1 % 64 * 64 + at_ l 2 % 64 : Nat) : Int), 3)) ∨
    (at_ l 0 / 8 = 30 ∧ 3 < l.length ∧ at_ l 1 / 64 = 2 ∧ at_ l 2 / 64 = 2 ∧ at_ l 3 / 64 = 2 ∧ 65536 ≤ at_ l 0 % 8 * 262144 + at_ l 1 % 64 * 4096 + at_ l 2 % 64 * 64 + at_ l 3 % 64 ∧ at_ l 0 % 8 * 262144 + at_ l 1 % 64 * 4096 + at_ l 2 % 64 * 64 + at_ l 3 % 64 ≤ 1114111 ∧
      dec l = (((at_ l 0 % 8 * 262144 + at_ l 1 % 64 * 4096 + at_ l 2 % 64 * 64 + at_ l 3 % 64 : Nat) : Int), 4)) ∨
    dec l = (-1, 1) := by
  rcases Lib.decodeN_shape l.length (at_ l 0) (at_ l 1) (at_ l 2) (at_ l 3) with ⟨c, e⟩ | ⟨c1, c2, c3, cv, e⟩ | ⟨c1, c2, c3, c4, cv, cs, e⟩ | ⟨c1, c2, c3, c4, c5, cv, cw, e⟩ | e
  · exact .inl ⟨c, dec_pos h e (by omega)⟩
  · exact .inr (.inl ⟨c1, c2, c3, cv, dec_pos h e (by omega)⟩)
  · exact .inr (.inr (.inl ⟨c1, c2, c3, c4, cv, cs, dec_pos h e (by omega)⟩))
  · exact .inr (.inr (.inr (.inl ⟨c1, c2, c3, c4, c5, cv, cw, dec_pos h e (by omega)⟩)))
  · exact .inr (.inr (.inr (.inr (dec_neg h e (by omega)))))

theorem byte_of (z : Int) (l : List UInt8) (i : Nat) (h : z = (at_ l i : Int)) : z.toNat.toUInt8 = l.getD i 0 := Lib.toByte z _ h

/-- A sign that was read stands there with its bytes. -/
theorem enc_dec (l : List UInt8) (h : 0 ≤ (dec l).1) : sgn (dec l).1 = true ∧ l ≠ [] ∧ (dec l).2 = (enc (dec l).1).length ∧ enc (dec l).1 ++ l.drop (dec l).2 = l := by
  by_cases hne : l = []
  · subst hne; exact absurd h (by decide)
  have hl : 0 < l.length := List.length_pos_iff.2 hne
  have k0 := at_lt l 0; have k1 := at_lt l 1; have k2 := at_lt l 2; have k3 := at_lt l 3
  have key : sgn (dec l).1 = true ∧ enc (dec l).1 = l.take (dec l).2 ∧ (dec l).2 ≤ l.length := by
    rw [sgn_iff]
    rcases dec_shape l hne with ⟨c, e⟩ | ⟨c1, c2, c3, cv, e⟩ | ⟨c1, c2, c3, c4, cv, cs, e⟩ | ⟨c1, c2, c3, c4, c5, cv, cw, e⟩ | e
    · rw [e]; dsimp only
      refine ⟨by omega, ?_, by omega⟩
      unfold enc Lib.encodeRune
      rw [Lib.encodeRuneZ_one (by omega) (by omega), Lib.takeA l hl]
      simp only [List.map_cons, List.map_nil]
      rw [byte_of _ l 0 rfl]
    · rw [e]; dsimp only
      refine ⟨by omega, ?_, by omega⟩
      unfold enc Lib.encodeRune
      rw [Lib.encodeRuneZ_two (by omega) (by omega), Lib.takeB l c2]
      simp only [List.map_cons, List.map_nil]
      rw [byte_of _ l 0 (by omega), byte_of _ l 1 (by omega)]
    · rw [e]; dsimp only
      refine ⟨by omega, ?_, by omega⟩
      unfold enc Lib.encodeRune
      rw [Lib.encodeRuneZ_three (by omega), Lib.takeC l c2]
      simp only [List.map_cons, List.map_nil]
      rw [byte_of _ l 0 (by omega), byte_of _ l 1 (by omega), byte_of _ l 2 (by omega)]
    · rw [e]; dsimp only
      refine ⟨by omega, ?_, by omega⟩
      unfold enc Lib.encodeRune
      rw [Lib.encodeRuneZ_four (by omega) (by omega), Lib.takeD l c2]
      simp only [List.map_cons, List.map_nil]
      rw [byte_of _ l 0 (by omega), byte_of _ l 1 (by omega), byte_of _ l 2 (by omega), byte_of _ l 3 (by omega)]
    · rw [e] at h; exact absurd h (by decide)
  refine ⟨key.1, hne, ?_, ?_⟩
  · rw [key.2.1, List.length_take]; omega
  · rw [key.2.1, List.take_append_drop]

theorem at_cons0 (a : UInt8) (l : List UInt8) : at_ (a :: l) 0 = a.toNat := rfl
theorem at_cons (a : UInt8) (l : List UInt8) (i : Nat) : at_ (a :: l) (i + 1) = at_ l i := rfl
theorem byte_nat (z : Int) (h0 : 0 ≤ z) (h1 : z < 256) : z.toNat.toUInt8.toNat = z.toNat := u8 z.toNat (by omega)

/-- A sign's bytes are read as that sign, whatever stands behind. -/
theorem dec_enc (n : Int) (hn : sgn n = true) (r : List UInt8) : dec (enc n ++ r) = (n, (enc n).length) := by
  rw [sgn_iff] at hn
  unfold enc Lib.encodeRune
  by_cases c1 : n ≤ 127
  · rw [Lib.encodeRuneZ_one hn.1 c1]
    simp only [List.map_cons, List.map_nil, List.cons_append, List.nil_append, List.length_cons, List.length_nil]
    have e : Lib.decodeN (n.toNat.toUInt8 :: r).length (at_ (n.toNat.toUInt8 :: r) 0) (at_ (n.toNat.toUInt8 :: r) 1) (at_ (n.toNat.toUInt8 :: r) 2) (at_ (n.toNat.toUInt8 :: r) 3) = (n.toNat, 1) := by
      rw [at_cons0, byte_nat n (by omega) (by omega)]
      unfold Lib.decodeN; rw [if_pos (by omega)]
    rw [dec_pos (by simp) e (by omega)]
    exact Prod.ext (show ((n.toNat : Nat) : Int) = n by omega) rfl
  by_cases c2 : n ≤ 2047
  · rw [Lib.encodeRuneZ_two (by omega) c2]
    simp only [List.map_cons, List.map_nil, List.cons_append, List.nil_append, List.length_cons, List.length_nil]
    generalize hx : (192 + n / 64 : Int) = x
    generalize hy : (128 + n % 64 : Int) = y
    have e : Lib.decodeN (x.toNat.toUInt8 :: y.toNat.toUInt8 :: r).length (at_ (x.toNat.toUInt8 :: y.toNat.toUInt8 :: r) 0) (at_ (x.toNat.toUInt8 :: y.toNat.toUInt8 :: r) 1) (at_ (x.toNat.toUInt8 :: y.toNat.toUInt8 :: r) 2) (at_ (x.toNat.toUInt8 :: y.toNat.toUInt8 :: r) 3) = (n.toNat, 2) := by
      rw [at_cons0, at_cons, at_cons0, byte_nat x (by omega) (by omega), byte_nat y (by omega) (by omega)]
      simp only [List.length_cons]
      unfold Lib.decodeN
      rw [if_neg (by omega), if_pos (by omega), if_pos (by omega)]
      simp only [Prod.mk.injEq, and_true]; omega
    rw [dec_pos (by simp) e (by omega)]
    exact Prod.ext (show ((n.toNat : Nat) : Int) = n by omega) rfl
  by_cases c3 : n ≤ 65535
  · rw [Lib.encodeRuneZ_three (by omega)]
    simp only [List.map_cons, List.map_nil, List.cons_append, List.nil_append, List.length_cons, List.length_nil]
    generalize hx : (224 + n / 4096 : Int) = x
    generalize hy : (128 + n / 64 % 64 : Int) = y
    generalize hz : (128 + n % 64 : Int) = z
    have e : Lib.decodeN (x.toNat.toUInt8 :: y.toNat.toUInt8 :: z.toNat.toUInt8 :: r).length (at_ (x.toNat.toUInt8 :: y.toNat.toUInt8 :: z.toNat.toUInt8 :: r) 0) (at_ (x.toNat.toUInt8 :: y.toNat.toUInt8 :: z.toNat.toUInt8 :: r) 1) (at_ (x.toNat.toUInt8 :: y.toNat.toUInt8 :: z.toNat.toUInt8 :: r) 2) (at_ (x.toNat.toUInt8 :: y.toNat.toUInt8 :: z.toNat.toUInt8 :: r) 3) = (n.toNat, 3) := by
      rw [at_cons0, at_cons, at_cons0, at_cons, at_cons, at_cons0, byte_nat x (by omega) (by omega), byte_nat y (by omega) (by omega), byte_nat z (by omega) (by omega)]
      simp only [List.length_cons]
      unfold Lib.decodeN
      rw [if_neg (by omega), if_neg (by omega), if_pos (by omega), if_pos (by omega)]
      simp only [Prod.mk.injEq, and_true]; omega
    rw [dec_pos (by simp) e (by omega)]
    exact Prod.ext (show ((n.toNat : Nat) : Int) = n by omega) rfl
  · rw [Lib.encodeRuneZ_four (by omega) (by omega)]
    simp only [List.map_cons, List.map_nil, List.cons_append, List.nil_append, List.length_cons, List.length_nil]
    generalize hx : (240 + n / 262144 : Int) = x
    generalize hy : (128 + n / 4096 % 64 : Int) = y
    generalize hz : (128 + n / 64 % 64 : Int) = z
    generalize hu : (128 + n % 64 : Int) = u
    have e : Lib.decodeN (x.toNat.toUInt8 :: y.toNat.toUInt8 :: z.toNat.toUInt8 :: u.toNat.toUInt8 :: r).length (at_ (x.toNat.toUInt8 :: y.toNat.toUInt8 :: z.toNat.toUInt8 :: u.toNat.toUInt8 :: r) 0) (at_ (x.toNat.toUInt8 :: y.toNat.toUInt8 :: z.toNat.toUInt8 :: u.toNat.toUInt8 :: r) 1) (at_ (x.toNat.toUInt8 :: y.toNat.toUInt8 :: z.toNat.toUInt8 :: u.toNat.toUInt8 :: r) 2) (at_ (x.toNat.toUInt8 :: y.toNat.toUInt8 :: z.toNat.toUInt8 :: u.toNat.toUInt8 :: r) 3) = (n.toNat, 4) := by
      rw [at_cons0, at_cons, at_cons0, at_cons, at_cons, at_cons0, at_cons, at_cons, at_cons, at_cons0, byte_nat x (by omega) (by omega), byte_nat y (by omega) (by omega), byte_nat z (by omega) (by omega), byte_nat u (by omega) (by omega)]
      simp only [List.length_cons]
      unfold Lib.decodeN
      rw [if_neg (by omega), if_neg (by omega), if_neg (by omega), if_pos (by omega), if_pos (by omega)]
      simp only [Prod.mk.injEq, and_true]; omega
    rw [dec_pos (by simp) e (by omega)]
    exact Prod.ext (show ((n.toNat : Nat) : Int) = n by omega) rfl
end Go.Proofs.YtmkdjgmdfhagfaaGreatDoor.Utf

/- Quoted texts by definition: what their beginnings mean, and that what is put in double quotes is read; plain laws, no conditions. -/
namespace Go.Proofs.YtmkdjgmdfhagfaaGreatDoor.Utf
/-- May a sign stand in quotes as it is? -/
def may (n : Int) : Bool := prt n && n != 9 && n != 10 && n != 13

/-- The signs of a text, if all of it is signs. -/
def signsF : Nat → List UInt8 → Option (List Int)
  | 0, _ => some []
  | k + 1, l => if l = [] then some [] else if (dec l).1 < 0 then none else (signsF k (l.drop (dec l).2)).map ((dec l).1 :: ·)
def signs (l : List UInt8) : Option (List Int) := signsF l.length l

def hexc (n : Nat) : UInt8 := UInt8.ofNat (if n < 10 then 48 + n else 87 + n)
def hexs (n : Nat) : Nat → List UInt8
  | 0 => []
  | m + 1 => hexs (n / 16) m ++ [hexc (n % 16)]

/-- A sign as it stands in double quotes. -/
def escS (n : Int) : List UInt8 :=
  if n = 34 then [92, 34] else if n = 92 then [92, 92] else if n = 9 then [92, 116] else if n = 10 then [92, 110] else if n = 13 then [92, 114] else if n = 0 then [92, 48] else
  if may n = true then enc n else if n < 256 then 92 :: 120 :: hexs n.toNat 2 else if n < 65536 then 92 :: 117 :: hexs n.toNat 4 else 92 :: 85 :: hexs n.toNat 8

def hexv (c : Nat) : Int := if 48 ≤ c ∧ c ≤ 57 then (c : Int) - 48 else if 97 ≤ c ∧ c ≤ 102 then (c : Int) - 87 else if 65 ≤ c ∧ c ≤ 70 then (c : Int) - 55 else -1

/-- The number of so many digits, and the error. -/
def digs : Nat → List UInt8 → Int → Int × Int
  | 0, _, n => (n, 0)
  | _ + 1, [], _ => (0, 4)
  | m + 1, c :: t, n => if hexv c.toNat < 0 then (0, 3) else digs m t (n * 16 + hexv c.toNat)

def hexE (l : List UInt8) (m : Nat) : Int × Nat × Int :=
  if (digs m (l.drop 2) 0).2 ≠ 0 then (0, 0, (digs m (l.drop 2) 0).2) else if sgn (digs m (l.drop 2) 0).1 = true then ((digs m (l.drop 2) 0).1, 2 + m, 0) else (0, 0, 3)

/-- An escape's sign, how many bytes it has, and the error. -/
def escB (l : List UInt8) : Int × Nat × Int :=
  if l.length < 2 then (0, 0, 4) else
  if at_ l 1 = 34 ∨ at_ l 1 = 92 then ((at_ l 1 : Int), 2, 0) else if at_ l 1 = 110 then (10, 2, 0) else if at_ l 1 = 116 then (9, 2, 0) else if at_ l 1 = 114 then (13, 2, 0) else
  if at_ l 1 = 48 then (0, 2, 0) else if at_ l 1 = 120 then hexE l 2 else if at_ l 1 = 117 then hexE l 4 else if at_ l 1 = 85 then hexE l 8 else (0, 0, 3)

/-- What the next bytes of a quoted text mean, how many they are (0: it ends there), and the error. -/
def oneB (l : List UInt8) (q : Nat) : List UInt8 × Nat × Int :=
  if at_ l 0 = q then (if q = 39 ∧ 1 < l.length ∧ at_ l 1 = 39 then ([39], 2, 0) else ([], 0, 0)) else
  if q = 34 ∧ at_ l 0 = 92 then (if (escB l).2.2 ≠ 0 then ([], 0, (escB l).2.2) else (enc (escB l).1, (escB l).2.1, 0)) else
  if may (dec l).1 = true then (l.take (dec l).2, (dec l).2, 0) else ([], 0, 8)

/-- What stands from a place on, behind what was read: the text, how many bytes, the error and its place. -/
def readF : Nat → List UInt8 → Nat → Nat → List UInt8 → List UInt8 × Nat × Int × Nat
  | 0, _, _, i, _ => ([], 0, 4, i)
  | k + 1, l, q, i, acc => if l = [] then ([], 0, 4, i) else
    if (oneB l q).2.2 = 4 then ([], 0, 4, i + l.length) else if (oneB l q).2.2 ≠ 0 then ([], 0, (oneB l q).2.2, i) else
    if (oneB l q).2.1 = 0 then (acc, i + 1, 0, 0) else readF k (l.drop (oneB l q).2.1) q (i + (oneB l q).2.1) (acc ++ (oneB l q).1)
def readB (s : List UInt8) : List UInt8 × Nat × Int × Nat :=
  if s = [] ∨ (at_ s 0 ≠ 39 ∧ at_ s 0 ≠ 34) then ([], 0, 3, 0) else readF s.length (s.drop 1) (at_ s 0) 1 []

def doubleB (zs : List Int) : List UInt8 := 34 :: (zs.flatMap escS ++ [34])

theorem sgn_zero : sgn 0 = true := rfl
theorem may_sgn {n : Int} (h : may n = true) : sgn n = true := by
  unfold may prt at h; rw [sgn_iff]; simp at h; omega
theorem enc_ne {n : Int} : enc n ≠ [] := by
  intro h; have := (Lib.encodeRuneZ_length n).1; unfold enc Lib.encodeRune at h
  rw [List.map_eq_nil_iff] at h; rw [h] at this; simp at this
theorem enc_len (n : Int) : 1 ≤ (enc n).length ∧ (enc n).length ≤ 4 := by
  have := Lib.encodeRuneZ_length n; unfold enc Lib.encodeRune; rw [List.length_map]; exact this

theorem dec_len (l : List UInt8) (h : l ≠ []) : 1 ≤ (dec l).2 ∧ (dec l).2 ≤ l.length := by
  have hl : 0 < l.length := List.length_pos_iff.2 h
  rcases dec_shape l h with ⟨c, e⟩ | ⟨c1, c2, c3, cv, e⟩ | ⟨c1, c2, c3, c4, cv, cs, e⟩ | ⟨c1, c2, c3, c4, c5, cv, cw, e⟩ | e <;> rw [e] <;> dsimp only <;> omega

/-- All of a text is signs: it is the bytes of these. -/
theorem signsF_some : ∀ (k : Nat) (l : List UInt8) (zs : List Int), l.length ≤ k → signsF k l = some zs → l = zs.flatMap enc ∧ ∀ z ∈ zs, sgn z = true
  | 0, l, zs, hk, h => by
    have : l = [] := List.eq_nil_of_length_eq_zero (by omega)
    subst this; cases Option.some.inj h; exact ⟨rfl, by simp⟩
  | k + 1, l, zs, hk, h => by
    unfold signsF at h
    by_cases hn : l = []
    · rw [if_pos hn] at h; cases Option.some.inj h; exact ⟨by simpa using hn, by simp⟩
    rw [if_neg hn] at h
    by_cases hd : (dec l).1 < 0
    · rw [if_pos hd] at h; cases h
    rw [if_neg hd] at h
    obtain ⟨ys, hy, rfl⟩ := Option.map_eq_some_iff.1 h
    have hw := dec_len l hn
    obtain ⟨e1, e2⟩ := signsF_some k _ ys (by rw [List.length_drop]; omega) hy
    obtain ⟨s1, _, _, s4⟩ := enc_dec l (by omega)
    refine ⟨?_, ?_⟩
    · rw [List.flatMap_cons, ← e1, s4]
    · intro z hz; rcases List.mem_cons.1 hz with rfl | hz
      · exact s1
      · exact e2 z hz
theorem signs_some {l : List UInt8} {zs : List Int} (h : signs l = some zs) : l = zs.flatMap enc ∧ ∀ z ∈ zs, sgn z = true := signsF_some _ _ _ (Nat.le_refl _) h

theorem signsF_of : ∀ (zs : List Int) (k : Nat), (∀ z ∈ zs, sgn z = true) → (zs.flatMap enc).length ≤ k → signsF k (zs.flatMap enc) = some zs
  | [], k, _, _ => by cases k <;> simp [signsF]
  | z :: zs, k, h, hk => by
    have h1 := enc_len z
    rw [List.flatMap_cons] at hk ⊢
    rw [List.length_append] at hk
    obtain ⟨k, rfl⟩ : ∃ m, k = m + 1 := ⟨k - 1, by omega⟩
    have hz := h z (by simp)
    have hp := ((sgn_iff z).1 hz).1
    have hne : ¬ enc z ++ zs.flatMap enc = [] := by simp [enc_ne]
    unfold signsF
    rw [if_neg hne, dec_enc z hz]
    dsimp only
    rw [if_neg (by omega), List.drop_left, signsF_of zs k (fun x hx => h x (by simp [hx])) (by omega)]
    rfl
theorem signs_of (zs : List Int) (h : ∀ z ∈ zs, sgn z = true) : signs (zs.flatMap enc) = some zs := signsF_of zs _ h (Nat.le_refl _)

theorem hexv_hexc : ∀ n, n < 16 → hexv (hexc n).toNat = (n : Int) := by decide
theorem hexs_len : ∀ (m n : Nat), (hexs n m).length = m
  | 0, _ => rfl
  | m + 1, n => by simp [hexs, hexs_len m]
theorem digs_hexs : ∀ (m n : Nat) (r : List UInt8) (a : Int), digs m (hexs n m ++ r) a = (a * 16 ^ m + (n % 16 ^ m : Nat), 0)
  | 0, n, r, a => by simp [digs, Nat.mod_one]
  | m + 1, n, r, a => by
    have step : ∀ (k : Nat) (c : Nat) (l : List UInt8) (b : Int), c < 16 → digs (k + 1) (hexc c :: l) b = digs k l (b * 16 + c) := by
      intro k c l b hc
      show (if hexv (hexc c).toNat < 0 then ((0 : Int), (3 : Int)) else digs k l (b * 16 + hexv (hexc c).toNat)) = _
      rw [hexv_hexc c hc, if_neg (by omega)]
    -- digits from the left
    have gen : ∀ (m n : Nat) (t : Nat) (r : List UInt8) (a : Int), digs (m + t) (hexs n m ++ r) a = digs t r (a * 16 ^ m + (n % 16 ^ m : Nat)) := by
      intro m
      induction m with
      | zero => intro n t r a; simp [hexs, Nat.mod_one]
      | succ m ih =>
        intro n t r a
        rw [hexs, List.append_assoc, show m + 1 + t = m + (t + 1) by omega, ih, List.singleton_append, step _ _ _ _ (by omega)]
        congr 1
        have h1 : n % 16 ^ (m + 1) = (n / 16) % 16 ^ m * 16 + n % 16 := by
          rw [Nat.pow_succ, Nat.mul_comm (16 ^ m) 16, Nat.mod_mul]; omega
        rw [h1, Int.pow_succ]
        push_cast
        rw [Int.add_mul, Int.mul_assoc, Int.add_assoc]
    rw [← Nat.add_zero (m + 1), gen]; simp only [Nat.add_zero]; unfold digs; rfl
theorem drop_cons2 (a b : UInt8) (l : List UInt8) : (a :: b :: l).drop 2 = l := rfl

theorem sgn_nat {n : Int} (h : sgn n = true) : 0 ≤ n ∧ n ≤ 1114111 := by rw [sgn_iff] at h; omega

theorem hexE_hexs (a b : UInt8) (m : Nat) (n : Int) (r : List UInt8) (hn : sgn n = true) (h : n < 16 ^ m) : hexE (a :: b :: (hexs n.toNat m ++ r)) m = (n, 2 + m, 0) := by
  have h0 := (sgn_nat hn).1
  have e := digs_hexs m n.toNat r 0
  have e2 : (0 : Int) * 16 ^ m + ((n.toNat % 16 ^ m : Nat) : Int) = n := by
    rw [Int.zero_mul, Int.zero_add, Nat.mod_eq_of_lt]
    · omega
    · have : ((n.toNat : Nat) : Int) < ((16 ^ m : Nat) : Int) := by push_cast; omega
      exact Int.ofNat_lt.1 this
  rw [e2] at e
  unfold hexE
  rw [drop_cons2, e]
  simp [hn]

/-- What a sign is put as in double quotes is read as that sign. -/
theorem one_escS (n : Int) (hn : sgn n = true) (r : List UInt8) : oneB (escS n ++ r) 34 = (enc n, (escS n).length, 0) := by
  have hb := sgn_nat hn
  have short : ∀ (c : UInt8) (v : Int), (escB (92 :: c :: r)) = (v, 2, 0) → oneB (92 :: c :: r) 34 = (enc v, 2, 0) := by
    intro c v h
    unfold oneB
    rw [if_neg (show ¬ at_ (92 :: c :: r) 0 = 34 by exact (by decide : ¬ (92 : UInt8).toNat = 34)), if_pos ⟨rfl, rfl⟩, h]; rfl
  have long : ∀ (c : UInt8) (m : Nat), (escB (92 :: c :: (hexs n.toNat m ++ r))) = (n, 2 + m, 0) → oneB (92 :: c :: (hexs n.toNat m ++ r)) 34 = (enc n, 2 + m, 0) := by
    intro c m h
    unfold oneB
    rw [if_neg (show ¬ at_ (92 :: c :: (hexs n.toNat m ++ r)) 0 = 34 by exact (by decide : ¬ (92 : UInt8).toNat = 34)), if_pos ⟨rfl, rfl⟩, h]; rfl
  have two : ∀ (c : UInt8) (t : List UInt8), ¬ (92 :: c :: t).length < 2 := by intro c t; simp
  unfold escS
  by_cases c1 : n = 34
  · subst c1; exact short 34 34 (by unfold escB; rw [if_neg (two _ _), if_pos (.inl rfl)]; rfl)
  by_cases c2 : n = 92
  · subst c2; exact short 92 92 (by unfold escB; rw [if_neg (two _ _), if_pos (.inr rfl)]; rfl)
  by_cases c3 : n = 9
  · subst c3; exact short 116 9 (by unfold escB; rw [if_neg (two _ _)]; rfl)
  by_cases c4 : n = 10
  · subst c4; exact short 110 10 (by unfold escB; rw [if_neg (two _ _)]; rfl)
  by_cases c5 : n = 13
  · subst c5; exact short 114 13 (by unfold escB; rw [if_neg (two _ _)]; rfl)
  by_cases c6 : n = 0
  · subst c6; exact short 48 0 (by unfold escB; rw [if_neg (two _ _)]; rfl)
  rw [if_neg c1, if_neg c2, if_neg c3, if_neg c4, if_neg c5, if_neg c6]
  by_cases hm : may n = true
  · rw [if_pos hm]
    have hd := dec_enc n hn r
    have h0 : (at_ (enc n ++ r) 0 : Int) = n ∨ 128 ≤ at_ (enc n ++ r) 0 := by
      rcases dec_shape (enc n ++ r) (by simp [enc_ne]) with ⟨c, e⟩ | ⟨c, _⟩ | ⟨c, _⟩ | ⟨c, _⟩ | e
      · rw [hd] at e; exact .inl (Prod.mk.inj e).1.symm
      · right; omega
      · right; omega
      · right; omega
      · rw [hd] at e; have := (Prod.mk.inj e).1; omega
    unfold oneB
    rw [if_neg (by omega), if_neg (by omega), hd]
    dsimp only
    rw [if_pos hm, List.take_left]
  rw [if_neg hm]
  have hl := fun m => hexs_len m n.toNat
  by_cases c7 : n < 256
  · rw [if_pos c7, List.cons_append, List.cons_append, long 120 2 (by unfold escB; rw [if_neg (two _ _)]; exact hexE_hexs _ _ 2 n r hn (by omega))]
    simp [hl]
  rw [if_neg c7]
  by_cases c8 : n < 65536
  · rw [if_pos c8, List.cons_append, List.cons_append, long 117 4 (by unfold escB; rw [if_neg (two _ _)]; exact hexE_hexs _ _ 4 n r hn (by omega))]
    simp [hl]
  · rw [if_neg c8, List.cons_append, List.cons_append, long 85 8 (by unfold escB; rw [if_neg (two _ _)]; exact hexE_hexs _ _ 8 n r hn (by omega))]
    simp [hl]

theorem escS_ne (n : Int) : escS n ≠ [] := by
  unfold escS
  repeat' split
  all_goals simp [enc_ne]

/-- Reading on over what signs are put as in double quotes. -/
theorem readF_escs : ∀ (zs : List Int) (k i : Nat) (acc r : List UInt8), (∀ z ∈ zs, sgn z = true) → (zs.flatMap escS ++ r).length ≤ k →
    ∃ k', r.length ≤ k' ∧ readF k (zs.flatMap escS ++ r) 34 i acc = readF k' r 34 (i + (zs.flatMap escS).length) (acc ++ zs.flatMap enc)
  | [], k, i, acc, r, _, hk => ⟨k, by simpa using hk, by simp⟩
  | z :: zs, k, i, acc, r, h, hk => by
    have hz := h z (by simp)
    have hne := escS_ne z
    have hl : 0 < (escS z).length := List.length_pos_iff.2 hne
    rw [List.flatMap_cons, List.append_assoc] at hk ⊢
    rw [List.length_append] at hk
    obtain ⟨k, rfl⟩ : ∃ m, k = m + 1 := ⟨k - 1, by omega⟩
    have ho := one_escS z hz (zs.flatMap escS ++ r)
    obtain ⟨k', h1, h2⟩ := readF_escs zs k (i + (escS z).length) (acc ++ enc z) r (fun x hx => h x (by simp [hx])) (by omega)
    refine ⟨k', h1, ?_⟩
    rw [show readF (k + 1) (escS z ++ (zs.flatMap escS ++ r)) 34 i acc = readF k (zs.flatMap escS ++ r) 34 (i + (escS z).length) (acc ++ enc z) from ?_, h2]
    · rw [List.flatMap_cons, List.length_append, List.append_assoc, Nat.add_assoc]
    · rw [readF, if_neg (by simp [hne]), ho]
      dsimp only
      rw [if_neg (by omega), if_neg (by omega), if_neg (by omega), List.drop_left]

theorem readF_end (k : Nat) (q i : Nat) (acc r : List UInt8) (c : UInt8) (hc : c.toNat = q) (hr : q = 39 → at_ r 0 ≠ 39) (hk : 0 < k) : readF k (c :: r) q i acc = (acc, i + 1, 0, 0) := by
  obtain ⟨k, rfl⟩ : ∃ m, k = m + 1 := ⟨k - 1, by omega⟩
  have ho : oneB (c :: r) q = ([], 0, 0) := by
    unfold oneB
    rw [if_pos (by rw [at_cons0]; exact hc), if_neg]
    rintro ⟨h1, _, h3⟩
    exact hr h1 h3
  rw [readF, if_neg (by simp), ho]
  rfl

theorem doubleB_len (zs : List Int) : (doubleB zs).length = 2 + (zs.flatMap escS).length := by
  unfold doubleB; simp; omega

/-- What is put in double quotes is read, whatever stands behind. -/
theorem read_double (zs : List Int) (h : ∀ z ∈ zs, sgn z = true) (r : List UInt8) : readB (doubleB zs ++ r) = (zs.flatMap enc, (doubleB zs).length, 0, 0) := by
  unfold readB
  rw [doubleB_len]
  unfold doubleB
  rw [if_neg (by
    rintro (h | ⟨_, h⟩)
    · simp at h
    · exact h rfl)]
  rw [List.cons_append, List.append_assoc, at_cons0, List.drop_one, List.tail_cons]
  obtain ⟨k', h1, h2⟩ := readF_escs zs (34 :: (zs.flatMap escS ++ ([34] ++ r))).length 1 [] ([34] ++ r) h (by simp)
  rw [show ((34 : UInt8).toNat) = 34 from rfl, h2, List.singleton_append, readF_end k' 34 _ _ r 34 rfl (fun e => by cases e) (by rw [List.singleton_append, List.length_cons] at h1; omega)]
  simp; omega
end Go.Proofs.YtmkdjgmdfhagfaaGreatDoor.Utf

/- Quoted texts: what is read is signs; single quotes; what is cut off; plain laws, no conditions. -/
namespace Go.Proofs.YtmkdjgmdfhagfaaGreatDoor.Utf
theorem digs_len : ∀ (m : Nat) (l : List UInt8) (a : Int), (digs m l a).2 = 0 → m ≤ l.length
  | 0, _, _, _ => Nat.zero_le _
  | m + 1, [], _, h => by simp [digs] at h
  | m + 1, c :: t, a, h => by
    unfold digs at h
    by_cases hc : hexv c.toNat < 0
    · rw [if_pos hc] at h; simp at h
    · rw [if_neg hc] at h; have := digs_len m t _ h; simp; omega
theorem digs_err : ∀ (m : Nat) (l : List UInt8) (a : Int), (digs m l a).2 = 0 ∨ (digs m l a).2 = 3 ∨ (digs m l a).2 = 4
  | 0, _, _ => .inl rfl
  | m + 1, [], _ => .inr (.inr rfl)
  | m + 1, c :: t, a => by
    unfold digs
    by_cases hc : hexv c.toNat < 0
    · rw [if_pos hc]; exact .inr (.inl rfl)
    · rw [if_neg hc]; exact digs_err m t _

theorem hexE_ok (l : List UInt8) (m : Nat) (h : (hexE l m).2.2 = 0) : sgn (hexE l m).1 = true ∧ (hexE l m).2.1 = 2 + m ∧ (2 ≤ l.length → 2 + m ≤ l.length) := by
  unfold hexE at h ⊢
  by_cases c : (digs m (l.drop 2) 0).2 = 0
  · rw [if_neg (by simpa using c)] at h ⊢
    by_cases d : sgn (digs m (l.drop 2) 0).1 = true
    · rw [if_pos d]
      have := digs_len m _ _ c
      rw [List.length_drop] at this
      exact ⟨d, rfl, fun _ => by omega⟩
    · rw [if_neg d] at h; cases h
  · rw [if_pos c] at h; exact absurd h c

theorem escB_ok (l : List UInt8) (h : (escB l).2.2 = 0) : sgn (escB l).1 = true ∧ 2 ≤ (escB l).2.1 ∧ (escB l).2.1 ≤ l.length := by
  unfold escB at h ⊢
  by_cases c : l.length < 2
  · rw [if_pos c] at h; cases h
  rw [if_neg c] at h ⊢
  by_cases c1 : at_ l 1 = 34 ∨ at_ l 1 = 92
  · rw [if_pos c1]; refine ⟨?_, by simp, by simp; omega⟩
    rw [sgn_iff]; dsimp only; omega
  rw [if_neg c1] at h ⊢
  by_cases c2 : at_ l 1 = 110
  · rw [if_pos c2]; exact ⟨rfl, by simp, by simp; omega⟩
  rw [if_neg c2] at h ⊢
  by_cases c3 : at_ l 1 = 116
  · rw [if_pos c3]; exact ⟨rfl, by simp, by simp; omega⟩
  rw [if_neg c3] at h ⊢
  by_cases c4 : at_ l 1 = 114
  · rw [if_pos c4]; exact ⟨rfl, by simp, by simp; omega⟩
  rw [if_neg c4] at h ⊢
  by_cases c5 : at_ l 1 = 48
  · rw [if_pos c5]; exact ⟨rfl, by simp, by simp; omega⟩
  rw [if_neg c5] at h ⊢
  by_cases c6 : at_ l 1 = 120
  · rw [if_pos c6] at h ⊢; obtain ⟨a, b, d⟩ := hexE_ok l 2 h; exact ⟨a, by omega, by omega⟩
  rw [if_neg c6] at h ⊢
  by_cases c7 : at_ l 1 = 117
  · rw [if_pos c7] at h ⊢; obtain ⟨a, b, d⟩ := hexE_ok l 4 h; exact ⟨a, by omega, by omega⟩
  rw [if_neg c7] at h ⊢
  by_cases c8 : at_ l 1 = 85
  · rw [if_pos c8] at h ⊢; obtain ⟨a, b, d⟩ := hexE_ok l 8 h; exact ⟨a, by omega, by omega⟩
  rw [if_neg c8] at h; cases h

/-- What is read at once, without an error, is nothing or a sign's bytes. -/
theorem oneB_ok (l : List UInt8) (q : Nat) (hl : l ≠ []) (h : (oneB l q).2.2 = 0) (h0 : (oneB l q).2.1 ≠ 0) : (oneB l q).2.1 ≤ l.length ∧ ∃ z, sgn z = true ∧ (oneB l q).1 = enc z := by
  unfold oneB at h h0 ⊢
  by_cases c : at_ l 0 = q
  · rw [if_pos c] at h h0 ⊢
    by_cases c1 : q = 39 ∧ 1 < l.length ∧ at_ l 1 = 39
    · rw [if_pos c1]; exact ⟨by dsimp only; omega, 39, rfl, rfl⟩
    · rw [if_neg c1] at h0; exact absurd rfl h0
  rw [if_neg c] at h h0 ⊢
  by_cases d : q = 34 ∧ at_ l 0 = 92
  · rw [if_pos d] at h h0 ⊢
    by_cases e : (escB l).2.2 = 0
    · rw [if_neg (by simpa using e)]
      obtain ⟨a1, a2, a3⟩ := escB_ok l e
      exact ⟨a3, _, a1, rfl⟩
    · rw [if_pos e] at h; exact absurd h e
  rw [if_neg d] at h h0 ⊢
  by_cases e : may (dec l).1 = true
  · rw [if_pos e]
    have hs := may_sgn e
    obtain ⟨b1, b2, b3, b4⟩ := enc_dec l (sgn_nat hs).1
    refine ⟨(dec_len l hl).2, _, hs, ?_⟩
    dsimp only
    rw [b3]
    have b5 := congrArg (List.take (enc (dec l).1).length) b4
    rw [List.take_left] at b5
    exact b5.symm
  · rw [if_neg e] at h; cases h

/-- What is read is signs, and ends within the text. -/
theorem readF_means : ∀ (k : Nat) (l : List UInt8) (q i : Nat) (acc : List UInt8) (t : List UInt8) (n p : Nat) (_ : readF k l q i acc = (t, n, 0, p)) (_ : ∃ zs : List Int, (∀ z ∈ zs, sgn z = true) ∧ acc = zs.flatMap enc),
    p = 0 ∧ (∃ zs : List Int, (∀ z ∈ zs, sgn z = true) ∧ t = zs.flatMap enc) ∧ i + 1 ≤ n ∧ n ≤ i + l.length
  | 0, l, q, i, acc, t, n, p, h, _ => by simp [readF] at h
  | k + 1, l, q, i, acc, t, n, p, h, ⟨zs, hz, ha⟩ => by
    unfold readF at h
    by_cases c : l = []
    · rw [if_pos c] at h; simp at h
    rw [if_neg c] at h
    by_cases c1 : (oneB l q).2.2 = 4
    · rw [if_pos c1] at h; simp at h
    rw [if_neg c1] at h
    by_cases c2 : (oneB l q).2.2 = 0
    · rw [if_neg (by simpa using c2)] at h
      have hl : 0 < l.length := List.length_pos_iff.2 c
      by_cases c3 : (oneB l q).2.1 = 0
      · rw [if_pos c3] at h
        simp only [Prod.mk.injEq] at h
        exact ⟨by omega, ⟨zs, hz, by rw [← h.1, ha]⟩, by omega, by omega⟩
      · rw [if_neg c3] at h
        obtain ⟨b1, z, b2, b3⟩ := oneB_ok l q c c2 c3
        obtain ⟨d1, d2, d3, d4⟩ := readF_means k _ q _ _ t n p h ⟨zs ++ [z], by
          intro x hx; rcases List.mem_append.1 hx with hx | hx
          · exact hz x hx
          · rw [List.mem_singleton] at hx; rw [hx]; exact b2, by rw [ha, b3, List.flatMap_append]; simp⟩
        rw [List.length_drop] at d4
        exact ⟨d1, d2, by omega, by omega⟩
    · rw [if_pos c2] at h; simp only [Prod.mk.injEq] at h; exact absurd h.2.2.1 c2

theorem readF_no : ∀ (k : Nat) (l : List UInt8) (q i : Nat) (acc : List UInt8), (readF k l q i acc).2.2.1 ≠ 0 → (readF k l q i acc).1 = [] ∧ (readF k l q i acc).2.1 = 0
  | 0, _, _, _, _, _ => ⟨rfl, rfl⟩
  | k + 1, l, q, i, acc, h => by
    unfold readF at h ⊢
    by_cases c : l = []
    · rw [if_pos c]; exact ⟨rfl, rfl⟩
    rw [if_neg c] at h ⊢
    by_cases c1 : (oneB l q).2.2 = 4
    · rw [if_pos c1]; exact ⟨rfl, rfl⟩
    rw [if_neg c1] at h ⊢
    by_cases c2 : (oneB l q).2.2 = 0
    · rw [if_neg (by simpa using c2)] at h ⊢
      by_cases c3 : (oneB l q).2.1 = 0
      · rw [if_pos c3] at h; exact absurd rfl h
      · rw [if_neg c3] at h ⊢; exact readF_no k _ _ _ _ h
    · rw [if_pos c2]; exact ⟨rfl, rfl⟩
theorem readB_no (s : List UInt8) (h : (readB s).2.2.1 ≠ 0) : (readB s).1 = [] ∧ (readB s).2.1 = 0 := by
  unfold readB at h ⊢
  split
  · exact ⟨rfl, rfl⟩
  · rename_i c; rw [if_neg c] at h; exact readF_no _ _ _ _ _ h

theorem readB_means (s t : List UInt8) (n p : Nat) (h : readB s = (t, n, 0, p)) : p = 0 ∧ (∃ zs : List Int, (∀ z ∈ zs, sgn z = true) ∧ t = zs.flatMap enc) ∧ 2 ≤ n ∧ n ≤ s.length := by
  unfold readB at h
  by_cases c : s = [] ∨ (at_ s 0 ≠ 39 ∧ at_ s 0 ≠ 34)
  · rw [if_pos c] at h; simp at h
  rw [if_neg c] at h
  have hs : 0 < s.length := List.length_pos_iff.2 (fun e => c (.inl e))
  obtain ⟨a, b, d, e⟩ := readF_means _ _ _ _ _ t n p h ⟨[], by simp, rfl⟩
  rw [List.length_drop] at e
  exact ⟨a, b, by omega, by omega⟩

/-- Single quotes: a sign as it stands there. -/
def encQ (z : Int) : List UInt8 := if z = 39 then [39, 39] else enc z
def dbl (c : UInt8) : List UInt8 := if c = 39 then [39, 39] else [c]
def singleB (l : List UInt8) : List UInt8 := 39 :: (l.flatMap dbl ++ [39])
/-- May a text stand in single quotes? -/
def simpB (l : List UInt8) : Bool := match signs l with
  | some zs => zs.all may
  | none => false

theorem enc_no39 (z : Int) (h : z ≠ 39) : (enc z).flatMap dbl = enc z := by
  have hb := Lib.encodeRuneZ_byte z
  have h39 : ∀ x ∈ Lib.encodeRuneZ z, x ≠ 39 := by
    intro x hx e
    subst e
    unfold Lib.encodeRuneZ at hx
    split at hx
    · simp at hx; omega
    split at hx
    · simp at hx; omega
    split at hx
    · simp at hx; omega
    split at hx
    · simp at hx; omega
    · simp at hx
  unfold enc Lib.encodeRune
  generalize Lib.encodeRuneZ z = L at hb h39
  induction L with
  | nil => rfl
  | cons x L ih =>
    have h1 := hb x (by simp)
    have h2 := h39 x (by simp)
    rw [List.map_cons, List.flatMap_cons, ih (fun y hy => hb y (by simp [hy])) (fun y hy => h39 y (by simp [hy]))]
    have : dbl x.toNat.toUInt8 = [x.toNat.toUInt8] := by
      unfold dbl
      rw [if_neg]
      intro e
      have := congrArg UInt8.toNat e
      rw [byte_nat x h1.1 h1.2] at this
      have h3 : (39 : UInt8).toNat = 39 := rfl
      omega
    rw [this]; rfl
theorem enc_dbl (z : Int) : (enc z).flatMap dbl = encQ z := by
  unfold encQ
  by_cases h : z = 39
  · rw [if_pos h]; subst h; rfl
  · rw [if_neg h, enc_no39 z h]
theorem flat_dbl : ∀ zs : List Int, (zs.flatMap enc).flatMap dbl = zs.flatMap encQ
  | [] => rfl
  | z :: zs => by rw [List.flatMap_cons, List.flatMap_append, enc_dbl, flat_dbl zs, List.flatMap_cons]

theorem at_enc (z : Int) (hz : sgn z = true) (r : List UInt8) : (at_ (enc z ++ r) 0 : Int) = z ∨ 128 ≤ at_ (enc z ++ r) 0 := by
  have hb := sgn_nat hz
  have hd := dec_enc z hz r
  rcases dec_shape (enc z ++ r) (by simp [enc_ne]) with ⟨c, e⟩ | ⟨c, _⟩ | ⟨c, _⟩ | ⟨c, _⟩ | e
  · rw [hd] at e; exact .inl (Prod.mk.inj e).1.symm
  · right; omega
  · right; omega
  · right; omega
  · rw [hd] at e; have := (Prod.mk.inj e).1; omega

theorem one_encQ (z : Int) (hz : may z = true) (r : List UInt8) : oneB (encQ z ++ r) 39 = (enc z, (encQ z).length, 0) := by
  unfold encQ
  by_cases h : z = 39
  · rw [if_pos h]; subst h
    unfold oneB
    rw [if_pos (show at_ ([39, 39] ++ r) 0 = 39 from rfl), if_pos ⟨rfl, by simp, rfl⟩]; rfl
  · rw [if_neg h]
    have := at_enc z (may_sgn hz) r
    unfold oneB
    rw [if_neg (by omega), if_neg (fun e => by cases e.1), dec_enc z (may_sgn hz) r]
    dsimp only
    rw [if_pos hz, List.take_left]
theorem encQ_ne (z : Int) : encQ z ≠ [] := by
  unfold encQ; split <;> simp [enc_ne]

/-- Reading on over signs that stand as pieces. -/
theorem readF_pieces (p : Int → List UInt8) (q : Nat) (P : Int → Prop) (hne : ∀ z, p z ≠ []) (hone : ∀ z r, P z → oneB (p z ++ r) q = (enc z, (p z).length, 0)) :
    ∀ (zs : List Int) (k i : Nat) (acc r : List UInt8), (∀ z ∈ zs, P z) → (zs.flatMap p ++ r).length ≤ k →
    ∃ k', r.length ≤ k' ∧ readF k (zs.flatMap p ++ r) q i acc = readF k' r q (i + (zs.flatMap p).length) (acc ++ zs.flatMap enc)
  | [], k, i, acc, r, _, hk => ⟨k, by simpa using hk, by simp⟩
  | z :: zs, k, i, acc, r, h, hk => by
    have hz := h z (by simp)
    have hl : 0 < (p z).length := List.length_pos_iff.2 (hne z)
    rw [List.flatMap_cons, List.append_assoc] at hk ⊢
    rw [List.length_append] at hk
    obtain ⟨k, rfl⟩ : ∃ m, k = m + 1 := ⟨k - 1, by omega⟩
    have ho := hone z (zs.flatMap p ++ r) hz
    obtain ⟨k', h1, h2⟩ := readF_pieces p q P hne hone zs k (i + (p z).length) (acc ++ enc z) r (fun x hx => h x (by simp [hx])) (by omega)
    refine ⟨k', h1, ?_⟩
    rw [show readF (k + 1) (p z ++ (zs.flatMap p ++ r)) q i acc = readF k (zs.flatMap p ++ r) q (i + (p z).length) (acc ++ enc z) from ?_, h2]
    · rw [List.flatMap_cons, List.length_append, List.append_assoc, Nat.add_assoc]
    · rw [readF, if_neg (by simp [hne z]), ho]
      dsimp only
      rw [if_neg (by omega), if_neg (by omega), if_neg (by omega), List.drop_left]

theorem simpB_signs {l : List UInt8} (h : simpB l = true) : ∃ zs : List Int, l = zs.flatMap enc ∧ ∀ z ∈ zs, may z = true := by
  unfold simpB at h
  cases hs : signs l with
  | none => rw [hs] at h; cases h
  | some zs => rw [hs] at h; exact ⟨zs, (signs_some hs).1, List.all_eq_true.1 h⟩

/-- What is put in single quotes is read, whatever stands behind, but a quote. -/
theorem read_single (l : List UInt8) (h : simpB l = true) (r : List UInt8) (hr : at_ r 0 ≠ 39) : readB (singleB l ++ r) = (l, (singleB l).length, 0, 0) := by
  obtain ⟨zs, rfl, hz⟩ := simpB_signs h
  unfold singleB
  rw [flat_dbl]
  unfold readB
  rw [if_neg (by
    rintro (h | ⟨h, _⟩)
    · simp at h
    · exact h rfl)]
  rw [List.cons_append, List.append_assoc, at_cons0, List.drop_one, List.tail_cons]
  obtain ⟨k', h1, h2⟩ := readF_pieces encQ 39 (fun z => may z = true) encQ_ne (fun z r hz => one_encQ z hz r) zs (39 :: (zs.flatMap encQ ++ ([39] ++ r))).length 1 [] ([39] ++ r) hz (by simp)
  rw [show ((39 : UInt8).toNat) = 39 from rfl, h2, List.singleton_append, readF_end k' 39 _ _ r 39 rfl (fun _ => hr) (by rw [List.singleton_append, List.length_cons] at h1; omega)]
  simp; omega
theorem at_app (a b : List UInt8) (i : Nat) : at_ (a ++ b) (a.length + i) = at_ b i := by
  unfold at_; rw [List.getD_eq_getElem?_getD, List.getD_eq_getElem?_getD, List.getElem?_append_right (by omega), Nat.add_sub_cancel_left]
theorem at_app_lt (a b : List UInt8) (i : Nat) (h : i < a.length) : at_ (a ++ b) i = at_ a i := by
  unfold at_; rw [List.getD_eq_getElem?_getD, List.getD_eq_getElem?_getD, List.getElem?_append_left h]

/-- A cut within pieces is a cut within one piece. -/
theorem take_pieces (p : Int → List UInt8) : ∀ (zs : List Int) (m : Nat), m < (zs.flatMap p).length →
    ∃ zs1 z zs2 j, zs = zs1 ++ z :: zs2 ∧ j < (p z).length ∧ m = (zs1.flatMap p).length + j ∧ (zs.flatMap p).take m = zs1.flatMap p ++ (p z).take j ∧ ∀ r, at_ (zs.flatMap p ++ r) m = at_ (p z) j
  | [], m, h => by simp at h
  | z :: zs, m, h => by
    rw [List.flatMap_cons, List.length_append] at h
    by_cases c : m < (p z).length
    · refine ⟨[], z, zs, m, rfl, c, by simp, ?_, ?_⟩
      · rw [List.flatMap_cons, List.take_append_of_le_length (by omega)]; rfl
      · intro r; rw [List.flatMap_cons, List.append_assoc, at_app_lt _ _ _ c]
    · obtain ⟨zs1, y, zs2, j, h1, h2, h3, h4, h5⟩ := take_pieces p zs (m - (p z).length) (by omega)
      refine ⟨z :: zs1, y, zs2, j, by rw [h1]; rfl, h2, by rw [List.flatMap_cons, List.length_append]; omega, ?_, ?_⟩
      · rw [List.flatMap_cons, List.take_append, List.take_of_length_le (by omega), h4, List.flatMap_cons, List.append_assoc]
      · intro r
        rw [List.flatMap_cons, List.append_assoc, ← h5 r]
        conv => lhs; rw [show m = (p z).length + (m - (p z).length) by omega]
        rw [at_app]

theorem hexs_all : ∀ (m n : Nat), ∀ c ∈ hexs n m, 0 ≤ hexv c.toNat
  | 0, _, c, h => by simp [hexs] at h
  | m + 1, n, c, h => by
    rw [hexs, List.mem_append] at h
    rcases h with h | h
    · exact hexs_all m _ c h
    · rw [List.mem_singleton] at h; rw [h, hexv_hexc _ (by omega)]; omega
theorem digs_cut : ∀ (m : Nat) (L : List UInt8) (a : Int), (∀ c ∈ L, 0 ≤ hexv c.toNat) → L.length < m → (digs m L a).2 = 4
  | 0, _, _, _, h => by omega
  | m + 1, [], _, _, _ => rfl
  | m + 1, c :: t, a, hc, h => by
    have := hc c (by simp)
    unfold digs
    rw [if_neg (by omega)]
    exact digs_cut m t _ (fun x hx => hc x (by simp [hx])) (by simp at h; omega)

theorem enc_cont (z : Int) (hz : sgn z = true) (j : Nat) (h0 : 0 < j) (h : j < (enc z).length) : at_ (enc z) j / 64 = 2 := by
  rw [sgn_iff] at hz
  unfold enc Lib.encodeRune at h ⊢
  by_cases c1 : z ≤ 127
  · rw [Lib.encodeRuneZ_one hz.1 c1] at h; simp at h; omega
  by_cases c2 : z ≤ 2047
  · rw [Lib.encodeRuneZ_two (by omega) c2] at h ⊢
    simp only [List.map_cons, List.map_nil, List.length_cons, List.length_nil] at h ⊢
    obtain rfl : j = 1 := by omega
    rw [at_cons, at_cons0, byte_nat _ (by omega) (by omega)]; omega
  by_cases c3 : z ≤ 65535
  · rw [Lib.encodeRuneZ_three (by omega)] at h ⊢
    simp only [List.map_cons, List.map_nil, List.length_cons, List.length_nil] at h ⊢
    rcases (by omega : j = 1 ∨ j = 2) with rfl | rfl
    · rw [at_cons, at_cons0, byte_nat _ (by omega) (by omega)]; omega
    · rw [at_cons, at_cons, at_cons0, byte_nat _ (by omega) (by omega)]; omega
  · rw [Lib.encodeRuneZ_four (by omega) (by omega)] at h ⊢
    simp only [List.map_cons, List.map_nil, List.length_cons, List.length_nil] at h ⊢
    rcases (by omega : j = 1 ∨ j = 2 ∨ j = 3) with rfl | rfl | rfl
    · rw [at_cons, at_cons0, byte_nat _ (by omega) (by omega)]; omega
    · rw [at_cons, at_cons, at_cons0, byte_nat _ (by omega) (by omega)]; omega
    · rw [at_cons, at_cons, at_cons, at_cons0, byte_nat _ (by omega) (by omega)]; omega

theorem one_esc4 (l : List UInt8) (h : (escB (92 :: l)).2.2 = 4) : (oneB (92 :: l) 34).2.2 = 4 := by
  unfold oneB
  rw [if_neg (show ¬ at_ (92 :: l) 0 = 34 by exact (by decide : ¬ (92 : UInt8).toNat = 34)), if_pos ⟨rfl, rfl⟩, if_pos (by rw [h]; decide)]
  exact h
theorem esc_one : (escB [92]).2.2 = 4 := rfl
theorem cut_hex (c : UInt8) (m : Nat) (n : Nat) (j : Nat) (hj : j < 2 + m) (h0 : 0 < j) (hm : ∀ t, ¬ (92 :: c :: t).length < 2 → escB (92 :: c :: t) = hexE (92 :: c :: t) m) : (oneB ((92 :: c :: hexs n m).take j) 34).2.2 = 4 := by
  rcases (show j = 1 ∨ ∃ i, j = i + 2 from if h : j = 1 then .inl h else .inr ⟨j - 2, by omega⟩) with rfl | ⟨i, rfl⟩
  · exact one_esc4 [] esc_one
  · rw [List.take_succ_cons, List.take_succ_cons]
    apply one_esc4
    have hd : (digs m ((hexs n m).take i) 0).2 = 4 := digs_cut m _ _ (fun x hx => hexs_all m n x (List.mem_of_mem_take hx)) (by rw [List.length_take, hexs_len]; omega)
    rw [hm _ (by simp)]
    unfold hexE
    rw [drop_cons2, if_pos (by rw [hd]; decide)]
    exact hd

theorem cut_escS (z : Int) (hz : sgn z = true) (j : Nat) (h0 : 0 < j) (h : j < (escS z).length) (hc : at_ (escS z) j / 64 ≠ 2) : (oneB ((escS z).take j) 34).2.2 = 4 := by
  have two : ∀ (c : UInt8), j < [92, c].length → (oneB ([92, c].take j) 34).2.2 = 4 := by
    intro c hj
    obtain rfl : j = 1 := by simp at hj; omega
    exact one_esc4 [] esc_one
  unfold escS at h hc ⊢
  by_cases c1 : z = 34
  · simp only [if_pos c1] at h hc ⊢; exact two _ h
  simp only [if_neg c1] at h hc ⊢
  by_cases c2 : z = 92
  · simp only [if_pos c2] at h hc ⊢; exact two _ h
  simp only [if_neg c2] at h hc ⊢
  by_cases c3 : z = 9
  · simp only [if_pos c3] at h hc ⊢; exact two _ h
  simp only [if_neg c3] at h hc ⊢
  by_cases c4 : z = 10
  · simp only [if_pos c4] at h hc ⊢; exact two _ h
  simp only [if_neg c4] at h hc ⊢
  by_cases c5 : z = 13
  · simp only [if_pos c5] at h hc ⊢; exact two _ h
  simp only [if_neg c5] at h hc ⊢
  by_cases c6 : z = 0
  · simp only [if_pos c6] at h hc ⊢; exact two _ h
  simp only [if_neg c6] at h hc ⊢
  by_cases c7 : may z = true
  · simp only [if_pos c7] at h hc ⊢
    exact absurd (enc_cont z hz j h0 h) hc
  simp only [if_neg c7] at h hc ⊢
  by_cases c8 : z < 256
  · simp only [if_pos c8, List.length_cons, hexs_len] at h ⊢; exact cut_hex 120 2 _ j (by omega) h0 (fun t ht => by unfold escB; rw [if_neg ht]; rfl)
  simp only [if_neg c8] at h hc ⊢
  by_cases c9 : z < 65536
  · simp only [if_pos c9, List.length_cons, hexs_len] at h ⊢; exact cut_hex 117 4 _ j (by omega) h0 (fun t ht => by unfold escB; rw [if_neg ht]; rfl)
  · simp only [if_neg c9, List.length_cons, hexs_len] at h ⊢; exact cut_hex 85 8 _ j (by omega) h0 (fun t ht => by unfold escB; rw [if_neg ht]; rfl)

theorem readF_nil (k q i : Nat) (acc : List UInt8) : readF k [] q i acc = ([], 0, 4, i) := by
  cases k <;> simp [readF]
theorem readF_four (k q i : Nat) (acc l : List UInt8) (hl : l ≠ []) (h : (oneB l q).2.2 = 4) (hk : 0 < k) : readF k l q i acc = ([], 0, 4, i + l.length) := by
  obtain ⟨k, rfl⟩ : ∃ m, k = m + 1 := ⟨k - 1, by omega⟩
  rw [readF, if_neg hl, if_pos h]

theorem readB_34 (l : List UInt8) : readB (34 :: l) = readF (l.length + 1) l 34 1 [] := by
  unfold readB
  rw [if_neg (by
    rintro (h | ⟨_, h⟩)
    · simp at h
    · exact h rfl)]
  rfl
theorem readB_39 (l : List UInt8) : readB (39 :: l) = readF (l.length + 1) l 39 1 [] := by
  unfold readB
  rw [if_neg (by
    rintro (h | ⟨h, _⟩)
    · simp at h
    · exact h rfl)]
  rfl

/-- A text in double quotes that is cut off between signs ends too early. -/
theorem cut_double (zs : List Int) (h : ∀ z ∈ zs, sgn z = true) (m : Nat) (hm : m ≤ (zs.flatMap escS).length) (hc : at_ (doubleB zs) (m + 1) / 64 ≠ 2) : readB ((doubleB zs).take (m + 1)) = ([], 0, 4, m + 1) := by
  unfold doubleB at hc ⊢
  rw [List.take_succ_cons, List.take_append_of_le_length hm, readB_34]
  rw [at_cons] at hc
  have hp := fun (ys : List Int) (hy : ∀ z ∈ ys, sgn z = true) r k (hk : (ys.flatMap escS ++ r).length ≤ k) => readF_pieces escS 34 (fun z => sgn z = true) escS_ne (fun z r hz => one_escS z hz r) ys k 1 [] r hy hk
  by_cases c : m = (zs.flatMap escS).length
  · rw [List.take_of_length_le (by omega)]
    obtain ⟨k', _, h2⟩ := hp zs h [] ((zs.flatMap escS).length + 1) (by simp)
    rw [List.append_nil] at h2
    rw [h2, readF_nil, c, Nat.add_comm]
  · obtain ⟨zs1, z, zs2, j, e1, e2, e3, e4, e5⟩ := take_pieces escS zs m (by omega)
    rw [e5] at hc
    have h1 : ∀ x ∈ zs1, sgn x = true := fun x hx => h x (by rw [e1]; simp [hx])
    have hz : sgn z = true := h z (by rw [e1]; simp)
    rw [e4]
    obtain ⟨k', h3, h2⟩ := hp zs1 h1 ((escS z).take j) ((zs1.flatMap escS ++ (escS z).take j).length + 1) (by omega)
    rw [h2]
    by_cases c0 : j = 0
    · subst c0; rw [List.take_zero, readF_nil, e3, Nat.add_zero, Nat.add_comm]
    · have hlen : ((escS z).take j).length = j := by rw [List.length_take]; omega
      rw [readF_four _ _ _ _ _ (by intro e; rw [e] at hlen; simp at hlen; omega) (cut_escS z hz j (by omega) e2 hc) (by omega), hlen, e3]
      congr 3; omega

/-- A text in single quotes that is cut off between signs ends too early, or means what stands ahead of a quote. -/
theorem cut_single (zs : List Int) (h : ∀ z ∈ zs, may z = true) (m : Nat) (hm : m ≤ (zs.flatMap encQ).length) (hc : at_ (singleB (zs.flatMap enc)) (m + 1) / 64 ≠ 2) :
    readB ((singleB (zs.flatMap enc)).take (m + 1)) = ([], 0, 4, m + 1) ∨ ∃ zs1 zs2, zs = zs1 ++ 39 :: zs2 ∧ readB ((singleB (zs.flatMap enc)).take (m + 1)) = (zs1.flatMap enc, m + 1, 0, 0) := by
  unfold singleB at hc ⊢
  rw [flat_dbl] at hc ⊢
  rw [List.take_succ_cons, List.take_append_of_le_length hm, readB_39]
  rw [at_cons] at hc
  have hp := fun (ys : List Int) (hy : ∀ z ∈ ys, may z = true) r k (hk : (ys.flatMap encQ ++ r).length ≤ k) => readF_pieces encQ 39 (fun z => may z = true) encQ_ne (fun z r hz => one_encQ z hz r) ys k 1 [] r hy hk
  by_cases c : m = (zs.flatMap encQ).length
  · left
    rw [List.take_of_length_le (by omega)]
    obtain ⟨k', _, h2⟩ := hp zs h [] ((zs.flatMap encQ).length + 1) (by simp)
    rw [List.append_nil] at h2
    rw [h2, readF_nil, c, Nat.add_comm]
  · obtain ⟨zs1, z, zs2, j, e1, e2, e3, e4, e5⟩ := take_pieces encQ zs m (by omega)
    rw [e5] at hc
    have h1 : ∀ x ∈ zs1, may x = true := fun x hx => h x (by rw [e1]; simp [hx])
    have hz : may z = true := h z (by rw [e1]; simp)
    rw [e4]
    obtain ⟨k', h3, h2⟩ := hp zs1 h1 ((encQ z).take j) ((zs1.flatMap encQ ++ (encQ z).take j).length + 1) (by omega)
    rw [h2]
    by_cases c0 : j = 0
    · left; subst c0; rw [List.take_zero, readF_nil, e3, Nat.add_zero, Nat.add_comm]
    · right
      unfold encQ at e2 hc
      by_cases cz : z = 39
      · subst cz
        rw [if_pos rfl] at e2
        obtain rfl : j = 1 := by simp only [List.length_cons, List.length_nil] at e2; omega
        refine ⟨zs1, zs2, e1, ?_⟩
        rw [show (encQ 39).take 1 = [39] from rfl] at h3 ⊢
        rw [readF_end k' 39 _ _ [] 39 rfl (fun _ => by decide) (by simp at h3; omega), e3, List.nil_append]
        congr 2; omega
      · rw [if_neg cz] at e2 hc
        exact absurd (enc_cont z (may_sgn hz) j (by omega) e2) hc
end Go.Proofs.YtmkdjgmdfhagfaaGreatDoor.Utf

/- Hexadecimal digits: plain laws, no conditions. -/
namespace Go.Proofs.YtmkdjgmdfhagfaaGreatDoor.Utf

def hexAll (l : List UInt8) : Bool := l.all fun c => decide (0 ≤ hexv c.toNat)
def hexNum (l : List UInt8) (a : Int) : Int := l.foldl (fun a c => a * 16 + hexv c.toNat) a
theorem hexv_lt (c : Nat) : hexv c < 16 := by unfold hexv; split <;> (try split) <;> (try split) <;> omega

theorem digs_take : ∀ (m : Nat) (l : List UInt8) (a : Int), digs m l a = if hexAll (l.take m) = true then (if l.length < m then (0, 4) else (hexNum (l.take m) a, 0)) else (0, 3)
  | 0, l, a => by simp [digs, hexAll, hexNum]
  | m + 1, [], a => by simp [digs, hexAll]
  | m + 1, c :: t, a => by
    rw [digs, List.take_succ_cons]
    by_cases h : hexv c.toNat < 0
    · rw [if_pos h, if_neg]
      unfold hexAll; rw [List.all_cons, decide_eq_false (by omega)]; simp
    · rw [if_neg h, digs_take m t]
      have e : hexAll (c :: t.take m) = hexAll (t.take m) := by
        unfold hexAll; rw [List.all_cons, decide_eq_true (by omega), Bool.true_and]
      rw [e]
      by_cases d : t.length < m
      · rw [if_pos d, if_pos (show (c :: t).length < m + 1 by simp; omega)]
      · rw [if_neg d, if_neg (show ¬ (c :: t).length < m + 1 by simp; omega)]; rfl

def hexSet : List UInt8 := [48, 49, 50, 51, 52, 53, 54, 55, 56, 57, 97, 98, 99, 100, 101, 102, 65, 66, 67, 68, 69, 70]
set_option maxRecDepth 100000 in
theorem set_nat : ∀ n : Fin 256, hexSet.contains (UInt8.ofNat n.val) = decide (0 ≤ hexv n.val) := by decide +kernel
theorem set_hex (c : UInt8) : hexSet.contains c = decide (0 ≤ hexv c.toNat) := by
  have := set_nat ⟨c.toNat, c.toNat_lt⟩
  simp only [UInt8.ofNat_toNat] at this
  exact this

theorem dw_nil (p : UInt8 → Bool) : ∀ l : List UInt8, l.dropWhile p = [] ↔ ∀ x ∈ l, p x = true
  | [] => by simp
  | c :: t => by
    have ih := dw_nil p t
    cases h : p c with
    | true => simp [List.dropWhile, h, ih]
    | false => simp [List.dropWhile, h]
theorem tw_all (p : UInt8 → Bool) : ∀ l : List UInt8, ∀ x ∈ l.takeWhile p, p x = true
  | [], x, h => by simp at h
  | c :: t, x, h => by
    cases hc : p c with
    | true =>
      rw [List.takeWhile_cons, hc, if_pos rfl] at h
      rcases List.mem_cons.1 h with rfl | h
      · exact hc
      · exact tw_all p t x h
    | false => rw [List.takeWhile_cons, hc, if_neg (by decide)] at h; simp at h
theorem trim_none (l cs : List UInt8) : Lib.trimS l cs = [] ↔ ∀ x ∈ l, cs.contains x = true := by
  unfold Lib.trimS Lib.trimLeftS Lib.trimRightS
  rw [dw_nil]
  constructor
  · intro h x hx
    have hx2 : x ∈ l.reverse := by simpa using hx
    rw [← List.takeWhile_append_dropWhile (p := (cs.contains ·)) (l := l.reverse), List.mem_append] at hx2
    rcases hx2 with hx2 | hx2
    · exact tw_all _ _ x hx2
    · exact h x (by simpa using hx2)
  · intro h x hx
    rw [List.mem_reverse] at hx
    have := (List.dropWhile_sublist (l := l.reverse) (cs.contains ·)).subset hx
    exact h x (by simpa using this)
theorem trim_hex (l : List UInt8) : Lib.trimS l hexSet = [] ↔ hexAll l = true := by
  rw [trim_none]; unfold hexAll; rw [List.all_eq_true]
  constructor
  · intro h x hx; rw [← set_hex]; exact h x hx
  · intro h x hx; rw [set_hex]; exact h x hx

theorem num_range : ∀ (l : List UInt8) (a : Int), hexAll l = true → 0 ≤ a → 0 ≤ hexNum l a ∧ hexNum l a < (a + 1) * 16 ^ l.length
  | [], a, _, h => by simp [hexNum, h]; omega
  | c :: t, a, h, h0 => by
    unfold hexAll at h
    rw [List.all_cons, Bool.and_eq_true] at h
    have hc := of_decide_eq_true h.1
    have h15 := hexv_lt c.toNat
    obtain ⟨i1, i2⟩ := num_range t (a * 16 + hexv c.toNat) h.2 (by omega)
    refine ⟨i1, Int.lt_of_lt_of_le i2 ?_⟩
    rw [List.length_cons, Int.pow_succ, show (a + 1) * (16 ^ t.length * 16) = (a + 1) * 16 * 16 ^ t.length by rw [Int.mul_comm (16 ^ t.length) 16, Int.mul_assoc]]
    exact Int.mul_le_mul_of_nonneg_right (by omega) (Int.pow_nonneg (by omega))
end Go.Proofs.YtmkdjgmdfhagfaaGreatDoor.Utf

/- YtmkdjgmdfhagfaaGreatDoorFUtfFault: what print.py told of Go functions, for this claim. -/
namespace Go.Proofs.YtmkdjgmdfhagfaaGreatDoor.PX
open Go.RowKit Go.Proofs.YtmkdjgmdfhagfaaGreatDoorW.PrintWords Go.Proofs.YtmkdjgmdfhagfaaGreatDoorW.PrintLast Go.Proofs.YtmkdjgmdfhagfaaGreatDoorW.PrintMore Go.Proofs.YtmkdjgmdfhagfaaGreatDoor
attribute [local go_sem] max2_int min2_int max_two min_two max_three min_three max_four min_four   -- for this text's walks alone
set_option linter.unusedVariables false
set_option linter.unusedSimpArgs false

/-! ### utf_fault: function 58 -/
def utf_fault.f (a0 : ByteArray) (a1 : Int) : Option (Int × Int) := if a1 < (a0.size : Int) then (some (8, a1)) else (some (0, 0))
set_option maxHeartbeats 8000000 in
set_option maxRecDepth 100000 in
theorem utf_fault.calls (a0 : ByteArray) (a1 : Int) (r1 : Int) (r2 : Int) (w : World) (hG : Glob.G w) (h : utf_fault.f a0 a1 = some (r1, r2)) :
    Calls Tryz.prog 58 #[.string a0, .int .i64 a1] w fun e w' => e = .returned (.agg #[.int .i64 r1, .int .i64 r2]) ∧ Below w.heap.size w w' := by
  have hu38 := Tryz.underlying38
  have HB := Aside0.mk (Below.refl w.heap.size w)
  have H : (if a1 < (a0.size : Int) then (some (8, a1)) else (some (0, 0))) = some (r1, r2) := h
  clear h
  by_cases c3 : a1 < (a0.size : Int)
  · rw [if_pos c3] at H
    have c3b0 : decide (a1 < (a0.size : Int)) = true := decide_eq_true c3
    clear c3
    simp only [Option.some.injEq, Prod.mk.injEq] at H
    obtain ⟨rfl, rfl⟩ := H
    go_enter Tryz.func58, Tryz.ntmps58
    go_wp2_with (first | ((with_reducible refine gate_dst (N := 4) rfl ?_); refine box_event ?hg (N := 4) ?hd (cs := #[.int .i64 0, .int .i64 0]) (t := 38) ?hr ?_; (case hd => rfl); (case hg => rfl); (case hr => first | (go_simp; done) | (go_simp; rfl)); intro gb101 hg w4 hbox hb; have n0_ := Aside0.mk (below_step (by repeat (first | (with_reducible first | exact HB.out | apply below_alloc | apply pw_below_drewN | apply below_drew1) | exact HB.out)) hb); have n1_ := Aside0.mk (hbox); have n2_ := Aside0.mk ((by rw [hg]; exact (below_size (by repeat (first | (with_reducible first | exact HB.out | apply below_alloc | apply pw_below_drewN | apply below_drew1) | exact HB.out))) : w.heap.size ≤ gb101)); have n3_ := Aside0.mk ((by rw [hg]; exact (below_size (by repeat (first | (with_reducible first | exact HB.out | apply below_alloc | apply pw_below_drewN | apply below_drew1) | exact HB.out))) : w.heap.size ≤ gb101)); clear HB; have HB := n0_; have BK101 := n1_; have GW101 := n2_; have GE101 := n3_; clear n0_ n1_ n2_ n3_; clear hb hbox hg; have hcz5_0 : w4.cell? ⟨gb101, 0, none⟩ = some (.int .i64 0) := (blk_cell BK101.out 0).trans rfl; have hcz5_1 : w4.cell? ⟨gb101, 1, none⟩ = some (.int .i64 0) := (blk_cell BK101.out 1).trans rfl; have hfz5_0 := blk_frozen BK101.out 0; have hfz5_1 := blk_frozen BK101.out 1))
    refine bodyPost_ret (results_cell_row rfl _ _ gb101 38 #[.int .i64 8, .int .i64 a1] (0, 0) _ rfl (by (with_reducible repeat (first | refine blk_drewN ?_ _ | refine blk_drew ?_ | refine blk_alloc ?_ _)); refine blk_put (cs := #[.int .i64 8, .int .i64 0]) ?_ 1 _ rfl; (with_reducible repeat (first | refine blk_drewN ?_ _ | refine blk_drew ?_ | refine blk_alloc ?_ _)); refine blk_put (cs := #[.int .i64 0, .int .i64 0]) ?_ 0 _ rfl; (with_reducible repeat (first | refine blk_drewN ?_ _ | refine blk_drew ?_ | refine blk_alloc ?_ _)); exact BK101.out) Tryz.underlying38 rfl (by kernel_rfl)) rfl ?_
    exact ⟨by first | rfl | (simp [errW_none, errW_some] <;> rfl) | (simp [*, errW_none, errW_some] <;> rfl), by repeat (first | (with_reducible first | exact HB.out | apply below_alloc | apply pw_below_drewN | apply below_drew1 | refine below_set ?_ GE101.out) | exact HB.out)⟩
  · rw [if_neg c3] at H
    have c3b0 : decide (a1 < (a0.size : Int)) = false := decide_eq_false c3
    clear c3
    simp only [Option.some.injEq, Prod.mk.injEq] at H
    obtain ⟨rfl, rfl⟩ := H
    go_enter Tryz.func58, Tryz.ntmps58
    go_wp2_with (first | ((with_reducible refine gate_dst (N := 4) rfl ?_); refine box_event ?hg (N := 4) ?hd (cs := #[.int .i64 0, .int .i64 0]) (t := 38) ?hr ?_; (case hd => rfl); (case hg => rfl); (case hr => first | (go_simp; done) | (go_simp; rfl)); intro gb101 hg w6 hbox hb; have n0_ := Aside0.mk (below_step (by repeat (first | (with_reducible first | exact HB.out | apply below_alloc | apply pw_below_drewN | apply below_drew1) | exact HB.out)) hb); have n1_ := Aside0.mk (hbox); have n2_ := Aside0.mk ((by rw [hg]; exact (below_size (by repeat (first | (with_reducible first | exact HB.out | apply below_alloc | apply pw_below_drewN | apply below_drew1) | exact HB.out))) : w.heap.size ≤ gb101)); have n3_ := Aside0.mk ((by rw [hg]; exact (below_size (by repeat (first | (with_reducible first | exact HB.out | apply below_alloc | apply pw_below_drewN | apply below_drew1) | exact HB.out))) : w.heap.size ≤ gb101)); clear HB; have HB := n0_; have BK101 := n1_; have GW101 := n2_; have GE101 := n3_; clear n0_ n1_ n2_ n3_; clear hb hbox hg; have hcz7_0 : w6.cell? ⟨gb101, 0, none⟩ = some (.int .i64 0) := (blk_cell BK101.out 0).trans rfl; have hcz7_1 : w6.cell? ⟨gb101, 1, none⟩ = some (.int .i64 0) := (blk_cell BK101.out 1).trans rfl; have hfz7_0 := blk_frozen BK101.out 0; have hfz7_1 := blk_frozen BK101.out 1))
    refine bodyPost_ret (results_cell_row rfl _ _ gb101 38 #[.int .i64 0, .int .i64 0] (0, 0) _ rfl (by (with_reducible repeat (first | refine blk_drewN ?_ _ | refine blk_drew ?_ | refine blk_alloc ?_ _)); refine blk_put (cs := #[.int .i64 0, .int .i64 0]) ?_ 1 _ rfl; (with_reducible repeat (first | refine blk_drewN ?_ _ | refine blk_drew ?_ | refine blk_alloc ?_ _)); refine blk_put (cs := #[.int .i64 0, .int .i64 0]) ?_ 0 _ rfl; (with_reducible repeat (first | refine blk_drewN ?_ _ | refine blk_drew ?_ | refine blk_alloc ?_ _)); exact BK101.out) Tryz.underlying38 rfl (by kernel_rfl)) rfl ?_
    exact ⟨by first | rfl | (simp [errW_none, errW_some] <;> rfl) | (simp [*, errW_none, errW_some] <;> rfl), by repeat (first | (with_reducible first | exact HB.out | apply below_alloc | apply pw_below_drewN | apply below_drew1 | refine below_set ?_ GE101.out) | exact HB.out)⟩

end Go.Proofs.YtmkdjgmdfhagfaaGreatDoor.PX

/- By hand, in the form in which the printed functions are told: the walk over a text's signs, the end of a plain text, a text's number. -/
namespace Go.Proofs.YtmkdjgmdfhagfaaGreatDoor.Plug
open Go.RowKit Go.Proofs.YtmkdjgmdfhagfaaGreatDoor Go.Proofs.YtmkdjgmdfhagfaaGreatDoor.PX Go.Proofs.YtmkdjgmdfhagfaaGreatDoor.Utf Go.Proofs.YtmkdjgmdfhagfaaGreatDoorW.PrintWords Go.Proofs.YtmkdjgmdfhagfaaGreatDoorW.PrintLast

/-! The walk over a text, as long as its signs are printable. -/
def utf_Check.f (a0 : ByteArray) : Option (Int × Int) := if a0.size ≤ 140737488351232 then some (fault a0.data.toList) else none

set_option maxHeartbeats 1000000 in
theorem walk_prt (s : ByteArray) (w : World) (hG : Glob.G w) (hs : s.size ≤ 140737488351232) :
    Calls Tryz.prog 56 #[.string s, .func (.func 66) #[] #[]] w fun e w' => e = .returned (.int .i64 (stop s.data.toList)) ∧ Below w.heap.size w w' := by
  have hL := Lib.hid (size_list s)
  go_enter Tryz.func56, Tryz.ntmps56
  go_wp2
  go_loopw [5] (fun a wr => ∃ i k : Nat, i ≤ s.size ∧ s.size ≤ i + k ∧ Hid (stopF k s.data.toList i = stop s.data.toList) ∧ a = .int .i64 i ∧ Below w.heap.size w wr) (fun a _ => s.size - (intOf a).toNat)
  case atStart => exact ⟨0, s.size, Nat.zero_le _, by omega, by rw [hL.out]; rfl, rfl, Below.refl _ _⟩
  case round =>
    obtain ⟨i, k, hi, hk, hst, rfl, hb⟩ := hrel
    have hGr := hG.below hb
    by_cases hlt : i < s.size
    · have hne : s.data.toList.drop i ≠ [] := by
        intro e; have h2 := congrArg List.length e; rw [List.length_drop, ← hL.out, List.length_nil] at h2; omega
      have hw := dec_wide _ hne
      have hf := prog_first (s.extract i s.size)
      rw [drop_list] at hf
      have hlen : (s.data.toList.drop i).length = s.size - i := by rw [List.length_drop, ← hL.out]
      have hstep : stopF k s.data.toList i = if prt (dec (s.data.toList.drop i)).1 = true then stopF (k - 1) s.data.toList (i + (dec (s.data.toList.drop i)).2) else i := by
        obtain ⟨k, rfl⟩ : ∃ m, k = m + 1 := ⟨k - 1, by omega⟩
        rw [stopF, if_pos (by have := hL.out; omega)]; rfl
      have hp := prog_printable (dec (s.data.toList.drop i)).1
      generalize dec (s.data.toList.drop i) = d at *
      obtain ⟨r, n⟩ := d
      simp only at hw hf hp hstep
      rw [hlen] at hw
      obtain ⟨hw1, hw2, hw3⟩ := hw
      have HF := Lib.hid hf; have HS := Lib.hid hstep
      clear hf hstep hlen hne
      cases hb2 : prt r with
      | true =>
        rw [hb2] at hp HS
        have HP := Lib.hid hp
        clear hp hb2
        go_wp2_with (first | (go_at_call 35; refine (utf_First.calls _ _ _ _ hGr HF.out).mono ?_; rintro e w1 ⟨rfl, hb1⟩) | (go_at_call 66; refine (utf_Printable.calls _ _ _ (hGr.below hb1) HP.out).mono ?_; rintro e w' ⟨rfl, ⟨nd, rfl⟩⟩))
        have HQ := Lib.hid (HS.out.symm.trans hst.out); clear HS hst
        have hbb := hb.trans ((hb1.mono hb.size).trans (Drawn0.below (Drawn0.step (Drawn0.refl w1) nd) |>.mono (Nat.le_trans hb.size hb1.size)))
        go_roundw
        case rel => exact ⟨i + n, k - 1, by omega, by omega, Lib.hid HQ.out, by go_num, hbb⟩
        case measure => simp [intOf]; omega
      | false =>
        rw [hb2] at hp HS
        have HP := Lib.hid hp
        clear hp hb2
        go_wp2_with (first | (go_at_call 35; refine (utf_First.calls _ _ _ _ hGr HF.out).mono ?_; rintro e w1 ⟨rfl, hb1⟩) | (go_at_call 66; refine (utf_Printable.calls _ _ _ (hGr.below hb1) HP.out).mono ?_; rintro e w' ⟨rfl, ⟨nd, rfl⟩⟩))
        have hbb := hb.trans ((hb1.mono hb.size).trans (Drawn0.below (Drawn0.step (Drawn0.refl w1) nd) |>.mono (Nat.le_trans hb.size hb1.size)))
        go_ret
        exact ⟨by rw [← hst.out, HS.out]; rfl, hbb⟩
    · have hc : decide ((i : Int) < (s.size : Int)) = false := by simp; omega
      have HE := Lib.hid (hst.out.symm.trans (stopF_end k s.data.toList i (by rw [← hL.out]; exact hlt)))
      go_wp2
      go_ret
      exact ⟨by rw [HE.out]; rfl, hb⟩

end Go.Proofs.YtmkdjgmdfhagfaaGreatDoor.Plug

/- Signs put down (utf.Encode), by hand, in the form in which the printed functions are told. Conditions: the text fits in memory. -/
namespace Go.Proofs.YtmkdjgmdfhagfaaGreatDoor.Plug
open Go.RowKit Go.Proofs.YtmkdjgmdfhagfaaGreatDoor Go.Proofs.YtmkdjgmdfhagfaaGreatDoor.PX Go.Proofs.YtmkdjgmdfhagfaaGreatDoor.Utf Go.Proofs.YtmkdjgmdfhagfaaGreatDoorW.PrintWords Go.Proofs.YtmkdjgmdfhagfaaGreatDoorW.PrintLast

def encB : List Int → List UInt8 → List UInt8 × Int
  | [], acc => (acc, 0)
  | n :: r, acc => if sgn n = true then encB r (acc ++ enc n) else ([], 8)

theorem rd_at (l : List Int) (i : Nat) (h : i < l.length) : rd l (i : Int) = l[i] := by
  unfold rd; rw [Int.toNat_natCast, List.getD_eq_getElem?_getD, List.getElem?_eq_getElem h]; rfl

theorem enc_cells (n : Int) : Lib.byteCells (enc n) = Lib.runeCells n := Lib.byteCells_encodeRune n

def utf_Encode.f (a0 : List Int) : Option (ByteArray × Int) := if 4 * a0.length ≤ 140737488351232 then some (⟨(encB a0 []).1.toArray⟩, (encB a0 []).2) else none

set_option maxHeartbeats 2000000 in
theorem utf_Encode.calls (A0 : Option Addr) (c0 : Nat) (l0 : List Int) (r1 : ByteArray) (r2 : Int) (w : World) (hr0 : Kd.C (Kd.int .i64) w A0 l0.length l0) (_hc0 : l0.length ≤ c0) (_hG : Glob.G w) (h : utf_Encode.f l0 = some (r1, r2)) :
    Calls Tryz.prog 98 #[.slice A0 l0.length c0] w fun e w' => e = .returned (.tuple #[.string r1, .int .i64 r2]) ∧ Below w.heap.size w w' := by
  unfold utf_Encode.f at h
  by_cases hs : 4 * l0.length ≤ 140737488351232
  · rw [if_pos hs] at h
    obtain ⟨rfl, rfl⟩ := Prod.mk.inj (Option.some.inj h)
    clear h
    go_enter Tryz.func98, Tryz.ntmps98
    go_wp2
    go_loopw [9] (fun v9 wr => ∃ (i : Nat) (acc : List UInt8), v9 = .int .i64 i ∧ i ≤ l0.length ∧ acc.length ≤ 4 * i ∧ Hid (encB (l0.drop i) acc = encB l0 []) ∧ Lib.IsBuilderF 63 5 w.heap.size w.heap.size (Lib.byteCells acc) wr ∧ Below w.heap.size w wr) (fun v9 _ => l0.length - (intOf v9).toNat)
    case atStart => exact ⟨0, [], rfl, by omega, by simp, Lib.hid rfl, Lib.IsBuilderF.of (Lib.fresh_isBuilder 63 5 w), (Below.refl _ w).alloc (Nat.le_refl _) _⟩
    case round =>
      obtain ⟨i, acc, rfl, hi, hal, hst, hI, hb⟩ := hrel
      by_cases hlt : i < l0.length
      · have hdrop : l0.drop i = l0[i] :: l0.drop (i + 1) := List.drop_eq_getElem_cons hlt
        have hst2 := hst.out
        rw [hdrop] at hst2
        have hc : decide ((i : Int) < (l0.length : Int)) = true := by simp; omega
        obtain ⟨ad, rfl, hx⟩ := Kd.at_int hr0 (i : Int) (by omega) (by omega)
        rw [rd_at l0 i hlt, Int.toNat_natCast] at hx
        replace hx := (hb.cell (World.block_lt_of_cell? w _ hx)).trans hx
        have p1 : (0 ≤ (i : Int)) = True := eq_true (by omega)
        have p2 : ((i : Int) < (l0.length : Int)) = True := eq_true (by omega)
        generalize l0[i] = x at *
        by_cases hsg : sgn x = true
        · have hq := (sgn_iff x).1 hsg
          have hel := enc_len x
          rw [show encB (x :: l0.drop (i + 1)) acc = encB (l0.drop (i + 1)) (acc ++ enc x) by rw [encB, if_pos hsg]] at hst2
          have HN := Lib.hid hst2
          have HQ := Lib.hid hq
          obtain ⟨q0, q1, q2⟩ := hq
          have hv : Lib.validRune x = true := by unfold Lib.validRune; rw [decide_eq_true_iff]; omega
          clear hst hst2 hdrop hsg q2
          go_wp2_with (first | (go_at_call 122; refine (Tryz.utf8_ValidRune _ _).mono ?_; rw [hv]; rintro e w1 ⟨rfl, rfl⟩) | (go_at_call 60; refine (Bld.sign 63 Bld.lies_plain w.heap.size w.heap.size _ x HQ.out _ hI (by rw [Lib.byteCells_length]; omega) hb.size).mono ?_; rintro e w2 ⟨rfl, h1, b1, k1⟩))
          go_roundw
          case rel => exact ⟨i + 1, acc ++ enc x, by go_num, by omega, by rw [List.length_append]; omega, Lib.hid HN.out, by rw [Lib.byteCells_append, enc_cells]; exact Or.inr h1, hb.trans b1⟩
          case measure => simp [intOf]; omega
        · rw [show encB (x :: l0.drop (i + 1)) acc = ([], 8) by rw [encB, if_neg hsg]] at hst2
          have HN := Lib.hid hst2
          have hns : ¬ (0 ≤ x ∧ x ≤ 1114111 ∧ (x < 55296 ∨ 57343 < x)) := fun e => hsg ((sgn_iff x).2 e)
          clear hst hst2 hdrop hsg
          by_cases z0 : x < 0
          · clear hns
            go_wp2_with (fail)
            go_ret2
            exact ⟨by rw [← HN.out]; rfl, hb⟩
          · by_cases z1 : 1114111 < x
            · clear hns
              go_wp2_with (fail)
              go_ret2
              exact ⟨by rw [← HN.out]; rfl, hb⟩
            · have hv : Lib.validRune x = false := by unfold Lib.validRune; rw [decide_eq_false_iff_not]; omega
              clear hns
              go_wp2_with (first | (go_at_call 122; refine (Tryz.utf8_ValidRune _ _).mono ?_; rw [hv]; rintro e w1 ⟨rfl, rfl⟩))
              go_ret2
              exact ⟨by rw [← HN.out]; rfl, hb⟩
      · have hc : decide ((i : Int) < (l0.length : Int)) = false := by simp; omega
        have hst2 := hst.out
        rw [List.drop_of_length_le (by omega)] at hst2
        have HN : Hid ((acc, (0 : Int)) = encB l0 []) := Lib.hid hst2
        clear hst hst2
        go_wp2_with (go_at_call 32; refine (Bld.got _ _ _ acc _ hI hb.size).mono ?_; rintro e w2 ⟨rfl, b1⟩)
        go_ret2
        exact ⟨by rw [← HN.out]; rfl, hb.trans b1⟩
  · rw [if_neg hs] at h; cases h
end Go.Proofs.YtmkdjgmdfhagfaaGreatDoor.Plug

/- A number's hexadecimal digits, read (strconv.ParseUint, base 16), at texts of one to eight digits. -/
namespace Go.Proofs.YtmkdjgmdfhagfaaGreatDoor.Plug
open Go.RowKit Go.Proofs.YtmkdjgmdfhagfaaGreatDoor Go.Proofs.YtmkdjgmdfhagfaaGreatDoor.Utf Go.Proofs.YtmkdjgmdfhagfaaGreatDoorW.PrintWords Go.Proofs.YtmkdjgmdfhagfaaGreatDoorW.PrintLast

theorem lower_fact : ∀ c : Fin 256, bits .or .u8 (c.val : Int) 32 = if c.val / 32 % 2 = 1 then (c.val : Int) else (c.val : Int) + 32 := by decide +kernel
theorem lower_up (c : Nat) (h : 65 ≤ c ∧ c ≤ 70) : bits .or .u8 (c : Int) 32 = ((c + 32 : Nat) : Int) := by
  have := lower_fact ⟨c, by omega⟩
  simp only at this
  rw [this, if_neg (by omega)]; omega
theorem lower_low (c : Nat) (h : 97 ≤ c ∧ c ≤ 102) : bits .or .u8 (c : Int) 32 = (c : Int) := by
  have := lower_fact ⟨c, by omega⟩
  simp only at this
  rw [this, if_pos (by omega)]
theorem pow16 : ∀ k : Fin 8, (16 : Int) ^ k.val ≤ 268435456 := by decide
theorem hexv_kind (c : Nat) (h : 0 ≤ hexv c) : (48 ≤ c ∧ c ≤ 57 ∧ hexv c = (c : Int) - 48) ∨ (97 ≤ c ∧ c ≤ 102 ∧ hexv c = (c : Int) - 87) ∨ (65 ≤ c ∧ c ≤ 70 ∧ hexv c = (c : Int) - 55) := by
  unfold hexv at h ⊢
  by_cases a : 48 ≤ c ∧ c ≤ 57
  · rw [if_pos a]; exact .inl ⟨a.1, a.2, rfl⟩
  by_cases b : 97 ≤ c ∧ c ≤ 102
  · rw [if_neg a, if_pos b]; exact .inr (.inl ⟨b.1, b.2, rfl⟩)
  by_cases d : 65 ≤ c ∧ c ≤ 70
  · rw [if_neg a, if_neg b, if_pos d]; exact .inr (.inr ⟨d.1, d.2, rfl⟩)
  · rw [if_neg a, if_neg b, if_neg d] at h; omega

theorem lower_is (c : Int) (w : World) : Calls Tryz.prog 159 #[.int .u8 c] w fun e w' => e = .returned (.int .u8 (bits .or .u8 c 32)) ∧ w' = w := by
  go_enter Tryz.func159, Tryz.ntmps159
  go_wp2
  go_ret
  exact ⟨rfl, rfl⟩

set_option maxHeartbeats 32000000 in
set_option maxRecDepth 100000 in
theorem parse_in (t : ByteArray) (h0 : 0 < t.size) (h8 : t.size ≤ 8) (hx : hexAll t.data.toList = true) (w : World) :
    Calls Tryz.prog 142 #[.string t, .int .i64 16, .int .i64 64] w fun e w' => e = .returned (.tuple #[.int .u64 (hexNum t.data.toList 0), .nilIface]) ∧ Below w.heap.size w w' := by
  have hemp : t.toList.isEmpty = false := by
    rw [← decide_eq_emptyBytes]
    exact decide_eq_false (fun h => by rw [h] at h0; exact absurd h0 (by decide))
  have hcv := Lib.run_convert_string_bytes (P := Tryz.prog) w 9 58 5 t (u := .string) (by kernel_rfl) (by kernel_rfl) (by kernel_rfl)
  have hB : ∀ j, j < t.size → (Lib.bytesWorld w 5 t).cell? ⟨w.heap.size, j, none⟩ = some (.int .u8 (t.data.toList.getD j 0).toNat) := fun j hj => Lib.bytesWorld_cell w 5 t j hj
  have HBel := Lib.hid (Lib.bytesWorld_below w 5 t)
  obtain ⟨W1, hW1⟩ : ∃ W1, W1 = Lib.bytesWorld w 5 t := ⟨_, rfl⟩
  rw [← hW1] at hcv hB HBel
  clear hW1
  obtain ⟨bs, hL⟩ : ∃ bs, bs = t.data.toList := ⟨_, rfl⟩
  have hLn : bs.length = t.size := by rw [hL, Array.length_toList]; rfl
  rw [← hL] at hB hx ⊢
  clear hL
  have hmv : IntKind.u64.wrap (IntKind.u64.wrap 18446744073709551616 - 1) = 18446744073709551615 := by
    rw [IntKind.wrap_u64, IntKind.wrap_u64]
    decide
  have HX := Lib.hid hx
  clear hx
  go_enter Tryz.func142, Tryz.ntmps142
  go_wp2
  go_loop [12, 13, 101] (fun vu vn vi => ∃ (k : Nat) (a : Int), vu = .bool false ∧ vn = .int .u64 a ∧ vi = .int .i64 k ∧ k ≤ t.size ∧ Hid (0 ≤ a ∧ a < 16 ^ k ∧ hexNum (bs.drop k) a = hexNum bs 0))
    (fun _ _ vi => t.size - (intOf vi).toNat)
  case atStart => exact ⟨0, 0, rfl, rfl, rfl, by omega, Lib.hid ⟨by omega, by simp, rfl⟩⟩
  case round =>
    obtain ⟨k, a, rfl, rfl, rfl, hk, hh⟩ := hrel
    by_cases hkn : k < t.size
    · have hc := hB k hkn
      have hdrop : bs.drop k = bs[k]'(by omega) :: bs.drop (k + 1) := List.drop_eq_getElem_cons (by omega)
      have hget : bs.getD k 0 = bs[k]'(by omega) := by simp [List.getD, List.getElem?_eq_getElem (show k < bs.length by omega)]
      have hmem : bs[k]'(by omega) ∈ bs := List.getElem_mem _
      rw [hget] at hc
      generalize bs[k]'(by omega) = c at hc hdrop hmem
      have hxc : 0 ≤ hexv c.toNat := of_decide_eq_true (List.all_eq_true.1 HX.out c hmem)
      obtain ⟨a0, a1, hnum⟩ := hh.out
      have hp := pow16 ⟨k, by omega⟩
      have a2 : a < 268435456 := by simp only at hp; omega
      rw [hdrop] at hnum
      have hnum2 : hexNum (bs.drop (k + 1)) (a * 16 + hexv c.toNat) = hexNum bs 0 := hnum
      have h15 := hexv_lt c.toNat
      have HN : Hid (0 ≤ a * 16 + hexv c.toNat ∧ a * 16 + hexv c.toNat < 16 ^ (k + 1) ∧ hexNum (bs.drop (k + 1)) (a * 16 + hexv c.toNat) = hexNum bs 0) := by
        refine Lib.hid ⟨by omega, ?_, hnum2⟩
        rw [Int.pow_succ]; omega
      clear hh hB hdrop hget hmem hnum hnum2 hp a1 HX HBel
      rcases hexv_kind c.toNat hxc with ⟨d0, d1, d2⟩ | ⟨d0, d1, d2⟩ | ⟨d0, d1, d2⟩
      · rw [d2] at HN
        clear d2 hxc h15
        generalize c.toNat = x at *
        go_wp2
        refine ⟨⟨k + 1, a * 16 + ((x : Int) - 48), rfl, (by first | rfl | (congr 1; omega)), (by first | rfl | (congr 1; omega)), by omega, HN⟩, by simp [intOf]; omega⟩
      · rw [d2] at HN
        have hlow := lower_low c.toNat ⟨d0, d1⟩
        clear d2 hxc h15
        generalize c.toNat = x at *
        go_wp2_with (go_at_call 159; refine (lower_is _ _).mono ?_; rintro e w' ⟨rfl, rfl⟩; rw [hlow])
        refine ⟨⟨k + 1, a * 16 + ((x : Int) - 87), rfl, (by first | rfl | (congr 1; omega)), (by first | rfl | (congr 1; omega)), by omega, HN⟩, by simp [intOf]; omega⟩
      · rw [d2] at HN
        have hlow := lower_up c.toNat ⟨d0, d1⟩
        clear d2 hxc h15
        generalize c.toNat = x at *
        go_wp2_with (go_at_call 159; refine (lower_is _ _).mono ?_; rintro e w' ⟨rfl, rfl⟩; rw [hlow])
        refine ⟨⟨k + 1, a * 16 + ((x : Int) - 55), rfl, (by first | rfl | (congr 1; omega)), (by first | rfl | (congr 1; omega)), by omega, HN⟩, by simp [intOf]; omega⟩
    · have hkk : k = t.size := by omega
      subst hkk
      have hF := hh.out.2.2
      rw [List.drop_eq_nil_of_le (by omega)] at hF
      clear hh hB HX
      obtain rfl : a = hexNum bs 0 := hF
      go_wp2
      go_ret2
      exact ⟨rfl, HBel.out⟩

set_option maxHeartbeats 4000000 in
theorem parse_out (t : ByteArray) (h0 : 0 < t.size) (h8 : t.size ≤ 8) (hx : hexAll t.data.toList = true) (w : World) :
    Calls Tryz.prog 121 #[.string t, .int .i64 16, .int .i64 64] w fun e w' => e = .returned (.tuple #[.int .u64 (hexNum t.data.toList 0), .nilIface]) ∧ Below w.heap.size w w' := by
  have HP := Lib.hid (parse_in t h0 h8 hx w)
  clear hx h0 h8
  generalize hexNum t.data.toList 0 = n at *
  go_enter Tryz.func121, Tryz.ntmps121
  go_wp2_with (go_at_call 142; refine HP.out.mono ?_; rintro e w' ⟨rfl, hb⟩)
  go_ret2
  exact ⟨rfl, hb⟩

def strconv_ParseUint.f (a0 : ByteArray) (a1 a2 : Int) : Option (Int × Option Int) :=
  if 0 < a0.size ∧ a0.size ≤ 8 ∧ hexAll a0.data.toList = true ∧ a1 = 16 ∧ a2 = 64 then some (hexNum a0.data.toList 0, none) else none
theorem strconv_ParseUint.calls (a0 : ByteArray) (a1 a2 : Int) (r1 : Int) (r2 : Option Int) (w : World) (_hG : Glob.G w) (h : strconv_ParseUint.f a0 a1 a2 = some (r1, r2)) :
    Calls Tryz.prog 121 #[.string a0, .int .i64 a1, .int .i64 a2] w fun e w' => e = .returned (.tuple #[.int .u64 r1, .nilIface]) ∧ Below w.heap.size w w' := by
  unfold strconv_ParseUint.f at h
  by_cases c : 0 < a0.size ∧ a0.size ≤ 8 ∧ hexAll a0.data.toList = true ∧ a1 = 16 ∧ a2 = 64
  · rw [if_pos c] at h
    obtain ⟨c1, c2, c3, rfl, rfl⟩ := c
    obtain ⟨rfl, rfl⟩ := Prod.mk.inj (Option.some.inj h)
    exact parse_out a0 c1 c2 c3 w
  · rw [if_neg c] at h; cases h
end Go.Proofs.YtmkdjgmdfhagfaaGreatDoor.Plug

/- The program's escapes (quote.escape), by hand, in the form in which the printed functions are told. Conditions: the text lies in memory. -/
namespace Go.Proofs.YtmkdjgmdfhagfaaGreatDoor.Plug
open Go.RowKit Go.Proofs.YtmkdjgmdfhagfaaGreatDoor Go.Proofs.YtmkdjgmdfhagfaaGreatDoor.PX Go.Proofs.YtmkdjgmdfhagfaaGreatDoor.Utf Go.Proofs.YtmkdjgmdfhagfaaGreatDoorW.PrintWords Go.Proofs.YtmkdjgmdfhagfaaGreatDoorW.PrintLast Go.Proofs.YtmkdjgmdfhagfaaGreatDoorW.PrintMore
attribute [local go_sem] min2_int min_two

theorem enc_one (n : Int) : utf_Encode.f [n] = some (if sgn n = true then (⟨(enc n).toArray⟩, 0) else (⟨#[]⟩, 8)) := by
  unfold utf_Encode.f
  rw [if_pos (by simp)]
  unfold encB
  by_cases h : sgn n = true
  · rw [if_pos h, if_pos h]; rfl
  · rw [if_neg h, if_neg h]
theorem extract_list (s : ByteArray) (i j : Nat) : (s.extract i j).data.toList = (s.data.toList.drop i).take (j - i) := by
  rw [Lib.extract_data]
theorem one_row (n : Int) (w : World) : Kd.C (Kd.int .i64) (w.alloc (.cells #[.int .i64 n] 3)) (some ⟨w.heap.size, 0, none⟩) ([n] : List Int).length [n] := by
  have h := World.ownsRow_lit (base := 0) (e := 3) (size := 1) w #[.int .i64 n] 1 (Nat.zero_le _) (by decide) rfl
  exact (Kd.R_reads' (Kd.R_of_own (enc := Value.int .i64) (h1 := fun _ => rfl) (xs := [n]) (ok := fun _ => True) h (fun _ _ => trivial))).2.2

set_option maxHeartbeats 1600000 in
set_option maxRecDepth 100000 in
theorem esc_hex (s : ByteArray) (w : World) (hG : Glob.G w) (hs : s.size ≤ 140737488351232) (h2 : 2 ≤ s.size) (m N2 : Nat) (C M2 M0 : Int) (hcm : (m = 2 ∧ N2 = 4 ∧ C = 120 ∧ M2 = 4 ∧ M0 = 2) ∨ (m = 4 ∧ N2 = 6 ∧ C = 117 ∧ M2 = 6 ∧ M0 = 4) ∨ (m = 8 ∧ N2 = 10 ∧ C = 85 ∧ M2 = 10 ∧ M0 = 8)) (hx : ∀ h : 1 < s.size, ((s[1]'h).toNat : Int) = C) :
    Calls Tryz.prog 97 #[.string s] w fun e w' => e = .returned (.tuple #[.int .i64 (hexE s.data.toList m).1, .int .i64 ((hexE s.data.toList m).2.1 : Int), .int .i64 (hexE s.data.toList m).2.2]) ∧ Below w.heap.size w w' := by
  have hL := size_list s
  obtain ⟨e, he⟩ : ∃ e, e = min (2 + m) s.size := ⟨_, rfl⟩
  have hD : (s.extract 2 e).data.toList = (s.data.toList.drop 2).take m := by
    rw [extract_list, he]
    by_cases c : 2 + m ≤ s.size
    · rw [show min (2 + m) s.size - 2 = m by omega]
    · rw [show min (2 + m) s.size - 2 = s.size - 2 by omega, List.take_of_length_le (by rw [List.length_drop]; omega), List.take_of_length_le (by rw [List.length_drop]; omega)]
  have hDs : (s.extract 2 e).size = min m (s.size - 2) := by
    rw [size_list, hD, List.length_take, List.length_drop, ← hL]
  have hmin : (if (s.size : Int) < M2 then (s.size : Int) else M2) = (e : Int) := by split <;> omega
  have e1 : 2 ≤ e := by omega
  have e2 : e ≤ s.size := by omega
  have i1 : ((2 : Int) ≤ (s.size : Int)) = True := eq_true (by omega)
  have i2 : ((2 : Int) ≤ (e : Int)) = True := eq_true (by omega)
  have i3 : ((e : Int) ≤ (s.size : Int)) = True := eq_true (by omega)
  have hT : strings_Trim.f (s.extract 2 e) (⟨#[48, 49, 50, 51, 52, 53, 54, 55, 56, 57, 97, 98, 99, 100, 101, 102, 65, 66, 67, 68, 69, 70]⟩ : ByteArray) = some ⟨(Lib.trimS (s.extract 2 e).data.toList hexSet).toArray⟩ := by
    unfold strings_Trim.f
    rw [if_pos ⟨by omega, by decide, by decide⟩]; rfl
  have hxh := trim_hex (s.extract 2 e).data.toList
  rw [hD] at hxh hT
  have hc2 : decide ((s.size : Int) < 2) = false := by simp; omega
  have hd := digs_take m (s.data.toList.drop 2) 0
  rw [List.length_drop, ← hL] at hd
  by_cases q : hexAll ((s.data.toList.drop 2).take m) = true
  · rw [if_pos q] at hd
    have HT := Lib.hid hT
    rw [hxh.2 q] at HT
    by_cases r : s.size - 2 < m
    · rw [if_pos r] at hd
      rw [show hexE s.data.toList m = (0, 0, 4) by unfold hexE; rw [hd]; rfl]
      clear hd
      have hlt : decide (((s.size - 2 : Nat) : Int) < M0) = true := by simp; omega
      obtain rfl : e = s.size := by omega
      clear hT hxh hD hDs hL q he hmin i2 i3
      rcases hcm with ⟨rfl, rfl, rfl, rfl, rfl⟩ | ⟨rfl, rfl, rfl, rfl, rfl⟩ | ⟨rfl, rfl, rfl, rfl, rfl⟩
      all_goals
        go_enter Tryz.func97, Tryz.ntmps97
        go_wp2_with (first | (go_at_call 71; refine (strings_Trim.calls _ _ _ _ hG HT.out).mono ?_; rintro e w1 ⟨rfl, hb1⟩))
        go_ret3
        exact ⟨rfl, hb1⟩
    · rw [if_neg r] at hd
      rw [show hexE s.data.toList m = if sgn (hexNum ((s.data.toList.drop 2).take m) 0) = true then (hexNum ((s.data.toList.drop 2).take m) 0, 2 + m, 0) else (0, 0, 3) by unfold hexE; rw [hd]; rfl]
      clear hd
      have j3 : ((M2 : Int) ≤ (s.size : Int)) = True := eq_true (by omega)
      have j4 : N2 ≤ s.size := by omega
      obtain rfl : e = N2 := by omega
      have hr := num_range ((s.data.toList.drop 2).take m) 0 q (by omega)
      rw [List.length_take, List.length_drop, ← hL, show min m (s.size - 2) = m by omega] at hr
      have hr2 : hexNum ((s.data.toList.drop 2).take m) 0 < 4294967296 := by
        rcases hcm with ⟨rfl, _⟩ | ⟨rfl, _⟩ | ⟨rfl, _⟩
        · have := hr.2; simp at this; omega
        · have := hr.2; simp at this; omega
        · have := hr.2; simp at this; omega
      have hr1 := hr.1
      have hP : strconv_ParseUint.f (s.extract 2 e) 16 64 = some (hexNum ((s.data.toList.drop 2).take m) 0, none) := by
        unfold strconv_ParseUint.f
        rw [if_pos ⟨by omega, by omega, by rw [hD]; exact q, rfl, rfl⟩, hD]
      have HP := Lib.hid hP
      have hE := enc_one (hexNum ((s.data.toList.drop 2).take m) 0)
      clear hT hxh hD hDs hL q hr hP he hmin
      obtain ⟨n, hn⟩ : ∃ n, n = hexNum ((s.data.toList.drop 2).take m) 0 := ⟨_, rfl⟩
      rw [← hn] at HP hE hr1 hr2 ⊢
      clear hn
      by_cases g : sgn n = true
      · rw [if_pos g]
        rw [if_pos g] at hE
        have HE := Lib.hid hE
        clear hE g
        rcases hcm with ⟨rfl, rfl, rfl, rfl, rfl⟩ | ⟨rfl, rfl, rfl, rfl, rfl⟩ | ⟨rfl, rfl, rfl, rfl, rfl⟩
        all_goals
          go_enter Tryz.func97, Tryz.ntmps97
          go_wp2_with (first | (go_at_call 71; refine (strings_Trim.calls _ _ _ _ hG HT.out).mono ?_; rintro e w1 ⟨rfl, hb1⟩) | (go_at_call 121; refine (strconv_ParseUint.calls _ _ _ _ _ _ (hG.below hb1) HP.out).mono ?_; rintro e w2 ⟨rfl, hb2⟩) | (go_at_call 98; refine (utf_Encode.calls _ _ [n] _ _ _ (one_row n w2) (by simp) (hG.below ((hb1.trans (hb2.mono hb1.size)).alloc (Nat.le_trans hb1.size hb2.size) _)) HE.out).mono ?_; rintro e w3 ⟨rfl, hb3⟩))
          go_ret3
          exact ⟨rfl, ((hb1.trans (hb2.mono hb1.size)).alloc (Nat.le_trans hb1.size hb2.size) _).trans (hb3.mono (by have := hb1.size; have := hb2.size; simp; omega))⟩
      · rw [if_neg g]
        rw [if_neg g] at hE
        have HE := Lib.hid hE
        clear hE g
        rcases hcm with ⟨rfl, rfl, rfl, rfl, rfl⟩ | ⟨rfl, rfl, rfl, rfl, rfl⟩ | ⟨rfl, rfl, rfl, rfl, rfl⟩
        all_goals
          go_enter Tryz.func97, Tryz.ntmps97
          go_wp2_with (first | (go_at_call 71; refine (strings_Trim.calls _ _ _ _ hG HT.out).mono ?_; rintro e w1 ⟨rfl, hb1⟩) | (go_at_call 121; refine (strconv_ParseUint.calls _ _ _ _ _ _ (hG.below hb1) HP.out).mono ?_; rintro e w2 ⟨rfl, hb2⟩) | (go_at_call 98; refine (utf_Encode.calls _ _ [n] _ _ _ (one_row n w2) (by simp) (hG.below ((hb1.trans (hb2.mono hb1.size)).alloc (Nat.le_trans hb1.size hb2.size) _)) HE.out).mono ?_; rintro e w3 ⟨rfl, hb3⟩))
          go_ret3
          exact ⟨rfl, ((hb1.trans (hb2.mono hb1.size)).alloc (Nat.le_trans hb1.size hb2.size) _).trans (hb3.mono (by have := hb1.size; have := hb2.size; simp; omega))⟩
  · rw [if_neg q] at hd
    rw [show hexE s.data.toList m = (0, 0, 3) by unfold hexE; rw [hd]; rfl]
    clear hd
    have HT := Lib.hid hT
    have hne : ¬ Lib.trimS ((s.data.toList.drop 2).take m) hexSet = [] := fun e => q (hxh.1 e)
    have hem : (⟨(Lib.trimS ((s.data.toList.drop 2).take m) hexSet).toArray⟩ : ByteArray).toList.isEmpty = false := by
      rw [Lib.toList_data]; simpa using hne
    generalize (⟨(Lib.trimS ((s.data.toList.drop 2).take m) hexSet).toArray⟩ : ByteArray) = t at HT hem
    by_cases r : s.size - 2 < m
    · obtain rfl : e = s.size := by omega
      clear hT hxh hD hDs hL q hne he hmin i2 i3
      rcases hcm with ⟨rfl, rfl, rfl, rfl, rfl⟩ | ⟨rfl, rfl, rfl, rfl, rfl⟩ | ⟨rfl, rfl, rfl, rfl, rfl⟩
      all_goals
        go_enter Tryz.func97, Tryz.ntmps97
        go_wp2_with (first | (go_at_call 71; refine (strings_Trim.calls _ _ _ _ hG HT.out).mono ?_; rintro e w1 ⟨rfl, hb1⟩))
        go_ret3
        exact ⟨rfl, hb1⟩
    · have j3 : ((M2 : Int) ≤ (s.size : Int)) = True := eq_true (by omega)
      have j4 : N2 ≤ s.size := by omega
      obtain rfl : e = N2 := by omega
      clear hT hxh hD hDs hL q hne he hmin
      rcases hcm with ⟨rfl, rfl, rfl, rfl, rfl⟩ | ⟨rfl, rfl, rfl, rfl, rfl⟩ | ⟨rfl, rfl, rfl, rfl, rfl⟩
      all_goals
        go_enter Tryz.func97, Tryz.ntmps97
        go_wp2_with (first | (go_at_call 71; refine (strings_Trim.calls _ _ _ _ hG HT.out).mono ?_; rintro e w1 ⟨rfl, hb1⟩))
        go_ret3
        exact ⟨rfl, hb1⟩

def quote_escape.f (a0 : ByteArray) : Option (Int × Int × Int) := if a0.size ≤ 140737488351232 then some ((escB a0.data.toList).1, ((escB a0.data.toList).2.1 : Int), (escB a0.data.toList).2.2) else none

set_option maxHeartbeats 1600000 in
set_option maxRecDepth 100000 in
theorem quote_escape.calls (a0 : ByteArray) (r1 r2 r3 : Int) (w : World) (hG : Glob.G w) (h : quote_escape.f a0 = some (r1, r2, r3)) :
    Calls Tryz.prog 97 #[.string a0] w fun e w' => e = .returned (.tuple #[.int .i64 r1, .int .i64 r2, .int .i64 r3]) ∧ Below w.heap.size w w' := by
  unfold quote_escape.f at h
  by_cases hs : a0.size ≤ 140737488351232
  · rw [if_pos hs] at h
    simp only [Option.some.injEq, Prod.mk.injEq] at h
    obtain ⟨rfl, rfl, rfl⟩ := h
    have hL := size_list a0
    have hlt := at_lt a0.data.toList 1
    have hx : ∀ h : 1 < a0.size, ((a0[1]'h).toNat : Int) = (at_ a0.data.toList 1 : Int) := fun h => by rw [← bt_at_]; exact bt_at a0 1 h
    have hE : escB a0.data.toList = if a0.size < 2 then (0, 0, 4) else
      if at_ a0.data.toList 1 = 34 ∨ at_ a0.data.toList 1 = 92 then ((at_ a0.data.toList 1 : Int), 2, 0) else if at_ a0.data.toList 1 = 110 then (10, 2, 0) else if at_ a0.data.toList 1 = 116 then (9, 2, 0) else if at_ a0.data.toList 1 = 114 then (13, 2, 0) else
      if at_ a0.data.toList 1 = 48 then (0, 2, 0) else if at_ a0.data.toList 1 = 120 then hexE a0.data.toList 2 else if at_ a0.data.toList 1 = 117 then hexE a0.data.toList 4 else if at_ a0.data.toList 1 = 85 then hexE a0.data.toList 8 else (0, 0, 3) := by
      unfold escB; rw [hL]
    by_cases h2 : a0.size < 2
    · rw [hE, if_pos h2]
      have hc2 : decide ((a0.size : Int) < 2) = true := by simp; omega
      clear hE hx hL hlt hG
      go_enter Tryz.func97, Tryz.ntmps97
      go_wp2
      go_ret3
      exact ⟨rfl, Below.refl _ _⟩
    rw [if_neg h2] at hE
    have hc2 : decide ((a0.size : Int) < 2) = false := by simp; omega
    by_cases c7 : at_ a0.data.toList 1 = 120
    · rw [c7] at hx
      rw [show escB a0.data.toList = hexE a0.data.toList 2 by rw [hE, c7]; rfl]
      exact esc_hex a0 w hG hs (by omega) 2 4 120 4 2 (.inl ⟨rfl, rfl, rfl, rfl, rfl⟩) hx
    by_cases c8 : at_ a0.data.toList 1 = 117
    · rw [c8] at hx
      rw [show escB a0.data.toList = hexE a0.data.toList 4 by rw [hE, c8]; rfl]
      exact esc_hex a0 w hG hs (by omega) 4 6 117 6 4 (.inr (.inl ⟨rfl, rfl, rfl, rfl, rfl⟩)) hx
    by_cases c9 : at_ a0.data.toList 1 = 85
    · rw [c9] at hx
      rw [show escB a0.data.toList = hexE a0.data.toList 8 by rw [hE, c9]; rfl]
      exact esc_hex a0 w hG hs (by omega) 8 10 85 10 8 (.inr (.inr ⟨rfl, rfl, rfl, rfl, rfl⟩)) hx
    rw [hE]
    clear hE hL hG hs
    have h2' : 2 ≤ a0.size := by omega
    generalize at_ a0.data.toList 1 = x at *
    by_cases c1 : x = 34
    · subst c1
      go_enter Tryz.func97, Tryz.ntmps97
      go_wp2
      go_ret3
      exact ⟨rfl, Below.refl _ _⟩
    by_cases c2 : x = 92
    · subst c2
      go_enter Tryz.func97, Tryz.ntmps97
      go_wp2
      go_ret3
      exact ⟨rfl, Below.refl _ _⟩
    by_cases c3 : x = 110
    · subst c3
      go_enter Tryz.func97, Tryz.ntmps97
      go_wp2
      go_ret3
      exact ⟨rfl, Below.refl _ _⟩
    by_cases c4 : x = 116
    · subst c4
      go_enter Tryz.func97, Tryz.ntmps97
      go_wp2
      go_ret3
      exact ⟨rfl, Below.refl _ _⟩
    by_cases c5 : x = 114
    · subst c5
      go_enter Tryz.func97, Tryz.ntmps97
      go_wp2
      go_ret3
      exact ⟨rfl, Below.refl _ _⟩
    by_cases c6 : x = 48
    · subst c6
      go_enter Tryz.func97, Tryz.ntmps97
      go_wp2
      go_ret3
      exact ⟨rfl, Below.refl _ _⟩
    rw [if_neg (show ¬ (x = 34 ∨ x = 92) by omega), if_neg c3, if_neg c4, if_neg c5, if_neg c6, if_neg c7, if_neg c8, if_neg c9]
    have b1 : ((x : Int) == 34) = false := by rw [beq_eq_false_iff_ne]; omega
    have b2 : ((x : Int) == 92) = false := by rw [beq_eq_false_iff_ne]; omega
    have b3 : ((x : Int) == 110) = false := by rw [beq_eq_false_iff_ne]; omega
    have b4 : ((x : Int) == 116) = false := by rw [beq_eq_false_iff_ne]; omega
    have b5 : ((x : Int) == 114) = false := by rw [beq_eq_false_iff_ne]; omega
    have b6 : ((x : Int) == 48) = false := by rw [beq_eq_false_iff_ne]; omega
    have b7 : ((x : Int) == 120) = false := by rw [beq_eq_false_iff_ne]; omega
    have b8 : ((x : Int) == 117) = false := by rw [beq_eq_false_iff_ne]; omega
    have b9 : ((x : Int) == 85) = false := by rw [beq_eq_false_iff_ne]; omega
    clear c1 c2 c3 c4 c5 c6 c7 c8 c9
    go_enter Tryz.func97, Tryz.ntmps97
    go_wp2
    go_ret3
    exact ⟨rfl, Below.refl _ _⟩
  · rw [if_neg hs] at h; cases h
end Go.Proofs.YtmkdjgmdfhagfaaGreatDoor.Plug

/- YtmkdjgmdfhagfaaGreatDoorFQuoteOne: what print.py told of Go functions, for this claim. -/
namespace Go.Proofs.YtmkdjgmdfhagfaaGreatDoor.PX
open Go.RowKit Go.Proofs.YtmkdjgmdfhagfaaGreatDoorW.PrintWords Go.Proofs.YtmkdjgmdfhagfaaGreatDoorW.PrintLast Go.Proofs.YtmkdjgmdfhagfaaGreatDoorW.PrintMore Go.Proofs.YtmkdjgmdfhagfaaGreatDoor Go.Proofs.YtmkdjgmdfhagfaaGreatDoor.Plug
attribute [local go_sem] max2_int min2_int max_two min_two max_three min_three max_four min_four   -- for this text's walks alone
set_option linter.unusedVariables false
set_option linter.unusedSimpArgs false

/-! ### quote_one: function 68 -/
def quote_one.j0 : Nat → ByteArray → Bool → Option (ByteArray × Int × Int)
  | 0, _, _ => none
  | k + 1, x0, x32 => if x32 = true then ((quote_escape.f x0).bind fun bt101 => (if bt101.2.2 = 0 then ((utf_Encode.f (([bt101.1] : List Int))).bind fun bt107 => (some (bt107.1, bt101.2.1, 0))) else (some ((⟨#[]⟩ : ByteArray), 0, bt101.2.2)))) else ((utf_First.f x0).bind fun bt109 => ((quote_may.f bt109.1).bind fun t111 => (if t111 = true then (if 0 ≤ bt109.2 then (if bt109.2 ≤ (x0.size : Int) then (some (x0.extract 0 (bt109.2 : Int).toNat, bt109.2, 0)) else (none)) else (none)) else (some ((⟨#[]⟩ : ByteArray), 0, 8)))))
def quote_one.f (k : Nat) (a0 : ByteArray) (a1 : Int) : Option (ByteArray × Int × Int) := if 0 < (a0.size : Int) then (if (bt a0 0) = a1 then (if a1 = 39 then (if (a0.size : Int) > 1 then (if 1 < (a0.size : Int) then (if (bt a0 1) = a1 then (some ((⟨#[39]⟩ : ByteArray), 2, 0)) else (some ((⟨#[]⟩ : ByteArray), 0, 0))) else (none)) else (some ((⟨#[]⟩ : ByteArray), 0, 0))) else (some ((⟨#[]⟩ : ByteArray), 0, 0))) else (if a1 = 34 then (quote_one.j0 k a0 ((bt a0 0) == 92)) else (quote_one.j0 k a0 false))) else (none)
theorem quote_one.mono_l : ∀ k, (∀ y0 y1, LeO (quote_one.j0 k y0 y1) (quote_one.j0 (k + 1) y0 y1))
  | 0 => fun _ _ r h => by simp [quote_one.j0] at h
  | k + 1 => by
    have ih0 := quote_one.mono_l k
    · intro y0 y1
      unfold quote_one.j0
      repeat' first
      | (with_reducible exact ih0 _ _)
      | (with_reducible exact LeO.refl _)
      | (with_reducible exact LeO.none _)
      | (with_reducible refine LeO.ite ?_ ?_)
      | (with_reducible refine LeO.bind ?_ (fun _ => ?_))
      | exact ih0 _ _
      | exact LeO.none _
      | refine LeO.ite ?_ ?_
      | refine LeO.bind ?_ (fun _ => ?_)
theorem quote_one.mono : ∀ a0 a1 k, LeO (quote_one.f k a0 a1) (quote_one.f (k + 1) a0 a1) := by
  intro a0 a1 k
  have ih0 := quote_one.mono_l k
  unfold quote_one.f
  repeat' first
      | (with_reducible exact ih0 _ _)
      | (with_reducible exact LeO.refl _)
      | (with_reducible exact LeO.none _)
      | (with_reducible refine LeO.ite ?_ ?_)
      | (with_reducible refine LeO.bind ?_ (fun _ => ?_))
      | exact ih0 _ _
      | exact LeO.none _
      | refine LeO.ite ?_ ?_
      | refine LeO.bind ?_ (fun _ => ?_)
set_option maxHeartbeats 8000000 in
set_option maxRecDepth 100000 in
theorem quote_one.calls (k : Nat) (a0 : ByteArray) (a1 : Int) (r1 : ByteArray) (r2 : Int) (r3 : Int) (w : World) (hG : Glob.G w) (h : quote_one.f k a0 a1 = some (r1, r2, r3)) :
    Calls Tryz.prog 68 #[.string a0, .int .u8 a1] w fun e w' => e = .returned (.tuple #[.string r1, .int .i64 r2, .int .i64 r3]) ∧ Below w.heap.size w w' := by
  have HB := Aside0.mk (Below.refl w.heap.size w)
  have H : (if 0 < (a0.size : Int) then (if (bt a0 0) = a1 then (if a1 = 39 then (if (a0.size : Int) > 1 then (if 1 < (a0.size : Int) then (if (bt a0 1) = a1 then (some ((⟨#[39]⟩ : ByteArray), 2, 0)) else (some ((⟨#[]⟩ : ByteArray), 0, 0))) else (none)) else (some ((⟨#[]⟩ : ByteArray), 0, 0))) else (some ((⟨#[]⟩ : ByteArray), 0, 0))) else (if a1 = 34 then (quote_one.j0 k a0 ((bt a0 0) == 92)) else (quote_one.j0 k a0 false))) else (none)) = some (r1, r2, r3) := h
  clear h
  by_cases c3 : 0 < (a0.size : Int)
  · rw [if_pos c3] at H
    have c3b0 : decide (0 < (a0.size : Int)) = true := decide_eq_true c3
    have c3b1 : decide (0 < a0.size) = true := decide_eq_true (by omega)
    clear c3
    by_cases c5 : (bt a0 0) = a1
    · rw [if_pos c5] at H
      have c5b0 : ((bt a0 0) == a1) = true := beq_iff_eq.mpr c5
      have c5b1 : ((bt a0 0) != a1) = false := bne_eq_false_iff_eq.mpr c5
      clear c5
      by_cases c6 : a1 = 39
      · rw [if_pos c6] at H
        have c6b0 : (a1 == 39) = true := beq_iff_eq.mpr c6
        have c6b1 : (a1 != 39) = false := bne_eq_false_iff_eq.mpr c6
        clear c6
        by_cases c7 : (a0.size : Int) > 1
        · rw [if_pos c7] at H
          have c7b0 : decide (1 < (a0.size : Int)) = true := decide_eq_true c7
          have c7b1 : decide (1 < a0.size) = true := decide_eq_true (by omega)
          clear c7
          by_cases c8 : 1 < (a0.size : Int)
          · rw [if_pos c8] at H
            have c8b0 : decide (1 < (a0.size : Int)) = true := decide_eq_true c8
            have c8b1 : decide (1 < a0.size) = true := decide_eq_true (by omega)
            clear c8
            by_cases c10 : (bt a0 1) = a1
            · rw [if_pos c10] at H
              have c10b0 : ((bt a0 1) == a1) = true := beq_iff_eq.mpr c10
              have c10b1 : ((bt a0 1) != a1) = false := bne_eq_false_iff_eq.mpr c10
              clear c10
              simp only [Option.some.injEq, Prod.mk.injEq] at H
              obtain ⟨rfl, rfl, rfl⟩ := H
              have p4 : 0 ≤ (0 : Int) := (by omega)
              have q4 : 0 < a0.size := (by have : (0 : Int) < (a0.size : Int) := of_decide_eq_true (by first | (with_reducible assumption) | assumption); omega)
              have hx4 : ∀ h : 0 < a0.size, ((a0[0]'h).toNat : Int) = bt a0 0 := bt_at a0 0
              clear p4
              have qi4 : (0 < (a0.size : Int)) = True := eq_true (of_decide_eq_true (by first | (with_reducible assumption) | assumption))
              replace q4 := eq_true q4
              have p9 : 0 ≤ (1 : Int) := (by omega)
              have q9 : 1 < a0.size := (by have : (1 : Int) < (a0.size : Int) := of_decide_eq_true (by first | (with_reducible assumption) | assumption); omega)
              have hx9 : ∀ h : 1 < a0.size, ((a0[1]'h).toNat : Int) = bt a0 1 := bt_at a0 1
              clear p9
              have qi9 : (1 < (a0.size : Int)) = True := eq_true (of_decide_eq_true (by first | (with_reducible assumption) | assumption))
              replace q9 := eq_true q9
              go_enter Tryz.func68, Tryz.ntmps68
              go_wp2
              go_ret3
              exact ⟨by first | rfl | (simp [errW_none, errW_some] <;> rfl) | (simp [*, errW_none, errW_some] <;> rfl), by repeat (first | (with_reducible first | exact HB.out | apply below_alloc | apply pw_below_drewN | apply below_drew1) | exact HB.out)⟩
            · rw [if_neg c10] at H
              have c10b0 : ((bt a0 1) == a1) = false := beq_eq_false_iff_ne.mpr c10
              have c10b1 : ((bt a0 1) != a1) = true := bne_iff_ne.mpr c10
              simp only [Option.some.injEq, Prod.mk.injEq] at H
              obtain ⟨rfl, rfl, rfl⟩ := H
              have p4 : 0 ≤ (0 : Int) := (by omega)
              have q4 : 0 < a0.size := (by have : (0 : Int) < (a0.size : Int) := of_decide_eq_true (by first | (with_reducible assumption) | assumption); omega)
              have hx4 : ∀ h : 0 < a0.size, ((a0[0]'h).toNat : Int) = bt a0 0 := bt_at a0 0
              clear p4
              have qi4 : (0 < (a0.size : Int)) = True := eq_true (of_decide_eq_true (by first | (with_reducible assumption) | assumption))
              replace q4 := eq_true q4
              have p9 : 0 ≤ (1 : Int) := (by omega)
              have q9 : 1 < a0.size := (by have : (1 : Int) < (a0.size : Int) := of_decide_eq_true (by first | (with_reducible assumption) | assumption); omega)
              have hx9 : ∀ h : 1 < a0.size, ((a0[1]'h).toNat : Int) = bt a0 1 := bt_at a0 1
              clear p9
              have qi9 : (1 < (a0.size : Int)) = True := eq_true (of_decide_eq_true (by first | (with_reducible assumption) | assumption))
              replace q9 := eq_true q9
              go_enter Tryz.func68, Tryz.ntmps68
              go_wp2
              go_ret3
              exact ⟨by first | rfl | (simp [errW_none, errW_some] <;> rfl) | (simp [*, errW_none, errW_some] <;> rfl), by repeat (first | (with_reducible first | exact HB.out | apply below_alloc | apply pw_below_drewN | apply below_drew1) | exact HB.out)⟩
          · rw [if_neg c8] at H
            exact absurd H (by simp)
        · rw [if_neg c7] at H
          have c7b0 : decide (1 < (a0.size : Int)) = false := decide_eq_false c7
          have c7b1 : decide (1 < a0.size) = false := decide_eq_false (by omega)
          clear c7
          simp only [Option.some.injEq, Prod.mk.injEq] at H
          obtain ⟨rfl, rfl, rfl⟩ := H
          have p4 : 0 ≤ (0 : Int) := (by omega)
          have q4 : 0 < a0.size := (by have : (0 : Int) < (a0.size : Int) := of_decide_eq_true (by first | (with_reducible assumption) | assumption); omega)
          have hx4 : ∀ h : 0 < a0.size, ((a0[0]'h).toNat : Int) = bt a0 0 := bt_at a0 0
          clear p4
          have qi4 : (0 < (a0.size : Int)) = True := eq_true (of_decide_eq_true (by first | (with_reducible assumption) | assumption))
          replace q4 := eq_true q4
          go_enter Tryz.func68, Tryz.ntmps68
          go_wp2
          go_ret3
          exact ⟨by first | rfl | (simp [errW_none, errW_some] <;> rfl) | (simp [*, errW_none, errW_some] <;> rfl), by repeat (first | (with_reducible first | exact HB.out | apply below_alloc | apply pw_below_drewN | apply below_drew1) | exact HB.out)⟩
      · rw [if_neg c6] at H
        have c6b0 : (a1 == 39) = false := beq_eq_false_iff_ne.mpr c6
        have c6b1 : (a1 != 39) = true := bne_iff_ne.mpr c6
        simp only [Option.some.injEq, Prod.mk.injEq] at H
        obtain ⟨rfl, rfl, rfl⟩ := H
        have p4 : 0 ≤ (0 : Int) := (by omega)
        have q4 : 0 < a0.size := (by have : (0 : Int) < (a0.size : Int) := of_decide_eq_true (by first | (with_reducible assumption) | assumption); omega)
        have hx4 : ∀ h : 0 < a0.size, ((a0[0]'h).toNat : Int) = bt a0 0 := bt_at a0 0
        clear p4
        have qi4 : (0 < (a0.size : Int)) = True := eq_true (of_decide_eq_true (by first | (with_reducible assumption) | assumption))
        replace q4 := eq_true q4
        go_enter Tryz.func68, Tryz.ntmps68
        go_wp2
        go_ret3
        exact ⟨by first | rfl | (simp [errW_none, errW_some] <;> rfl) | (simp [*, errW_none, errW_some] <;> rfl), by repeat (first | (with_reducible first | exact HB.out | apply below_alloc | apply pw_below_drewN | apply below_drew1) | exact HB.out)⟩
    · rw [if_neg c5] at H
      have c5b0 : ((bt a0 0) == a1) = false := beq_eq_false_iff_ne.mpr c5
      have c5b1 : ((bt a0 0) != a1) = true := bne_iff_ne.mpr c5
      have HC11 := Aside0.mk H
      clear H
      have p4 : 0 ≤ (0 : Int) := (by omega)
      have q4 : 0 < a0.size := (by have : (0 : Int) < (a0.size : Int) := of_decide_eq_true (by first | (with_reducible assumption) | assumption); omega)
      have hx4 : ∀ h : 0 < a0.size, ((a0[0]'h).toNat : Int) = bt a0 0 := bt_at a0 0
      clear p4
      have qi4 : (0 < (a0.size : Int)) = True := eq_true (of_decide_eq_true (by first | (with_reducible assumption) | assumption))
      replace q4 := eq_true q4
      go_enter Tryz.func68, Tryz.ntmps68
      go_upto_region 5 with (fail)
      go_cut [32] (fun v32 wc => ∃ (kq : Nat) (x32_10 : Bool), v32 = .bool x32_10 ∧ Aside0 (quote_one.j0 kq a0 x32_10 = some (r1, r2, r3)) ∧ Aside0 (kq ≤ k) ∧ Aside0 (Below w.heap.size w wc))
      case first =>
        have H := HC11.out
        clear HC11
        by_cases c12 : a1 = 34
        · rw [if_pos c12] at H
          have c12b0 : (a1 == 34) = true := beq_iff_eq.mpr c12
          have c12b1 : (a1 != 34) = false := bne_eq_false_iff_eq.mpr c12
          clear c12
          (first | rw [c12b0] | (simp only [i64_w, i32_w]; rw [c12b0]) | skip)
          have H' := Aside0.mk H
          clear H
          have p13 : 0 ≤ (0 : Int) := (by omega)
          have q13 : 0 < a0.size := (by have : (0 : Int) < (a0.size : Int) := of_decide_eq_true (by first | (with_reducible assumption) | assumption); omega)
          have hx13 : ∀ h : 0 < a0.size, ((a0[0]'h).toNat : Int) = bt a0 0 := bt_at a0 0
          clear p13
          have qi13 : (0 < (a0.size : Int)) = True := eq_true (of_decide_eq_true (by first | (with_reducible assumption) | assumption))
          replace q13 := eq_true q13
          go_wp2
          go_meet
          case rel => exact ⟨_, (((bt a0 0) == 92)), (by first | rfl | (simp; done) | (simp [*]; done)), H', ⟨by first | omega | exact Nat.le_refl _⟩, ⟨by repeat (first | (with_reducible first | exact HB.out | apply below_alloc | apply pw_below_drewN | apply below_drew1) | exact HB.out)⟩⟩
        · rw [if_neg c12] at H
          have c12b0 : (a1 == 34) = false := beq_eq_false_iff_ne.mpr c12
          have c12b1 : (a1 != 34) = true := bne_iff_ne.mpr c12
          (first | rw [c12b0] | (simp only [i64_w, i32_w]; rw [c12b0]) | skip)
          have H' := Aside0.mk H
          clear H
          go_wp2
          go_meet
          case rel => exact ⟨_, (false), (by first | rfl | (simp; done) | (simp [*]; done)), H', ⟨by first | omega | exact Nat.le_refl _⟩, ⟨by repeat (first | (with_reducible first | exact HB.out | apply below_alloc | apply pw_below_drewN | apply below_drew1) | exact HB.out)⟩⟩
      case rest =>
        clear HC11
        try clear c1
        try clear p1
        try clear q1
        try clear hx1
        try clear qi1
        try clear p2
        try clear c3
        try clear c3b0
        try clear c3b1
        try clear p4
        try clear q4
        try clear hx4
        try clear qi4
        try clear c5
        try clear c5b0
        try clear c5b1
        try clear c6
        try clear c6b0
        try clear c6b1
        try clear c7
        try clear c7b0
        try clear c7b1
        try clear c8
        try clear c8b0
        try clear c8b1
        try clear p9
        try clear q9
        try clear hx9
        try clear qi9
        try clear c10
        try clear c10b0
        try clear c10b1
        try clear c12
        try clear c12b0
        try clear c12b1
        try clear p13
        try clear q13
        try clear hx13
        try clear qi13
        try clear p13
        try clear p4
        try clear p9
        try clear q13
        try clear q4
        try clear q9
        obtain ⟨kq, x32_10, rfl, HA, HJ10, HB⟩ := hcut
        cases kq with
        | zero => exact absurd HA.out (by simp [quote_one.j0])
        | succ kj10 =>
          have H := HA.out
          clear HA
          simp only [quote_one.j0] at H
          by_cases c14 : x32_10 = true
          · subst c14
            have H1 : ((quote_escape.f a0).bind fun bt101 => (if bt101.2.2 = 0 then ((utf_Encode.f (([bt101.1] : List Int))).bind fun bt107 => (some (bt107.1, bt101.2.1, 0))) else (some ((⟨#[]⟩ : ByteArray), 0, bt101.2.2)))) = some (r1, r2, r3) := by rw [if_pos rfl] at H; exact H
            clear H
            have H := H1
            clear H1
            replace H := Option.bind_eq_some_iff.mp H
            obtain ⟨⟨t101, t102, t103⟩, A150, H⟩ := H
            replace H : (if t103 = 0 then ((utf_Encode.f (([t101] : List Int))).bind fun bt107 => (some (bt107.1, t102, 0))) else (some ((⟨#[]⟩ : ByteArray), 0, t103))) = some (r1, r2, r3) := H
            have A15 := Aside0.mk A150
            clear A150
            by_cases c16 : t103 = 0
            · rw [if_pos c16] at H
              have c16b0 : (t103 == 0) = true := beq_iff_eq.mpr c16
              have c16b1 : (t103 != 0) = false := bne_eq_false_iff_eq.mpr c16
              clear c16
              obtain ⟨y104, hy104⟩ : ∃ y_ : List Int, y_ = (([t101] : List Int)) := ⟨_, rfl⟩
              replace H : ((utf_Encode.f y104).bind fun bt107 => (some (bt107.1, t102, 0))) = some (r1, r2, r3) := by first | (rw [hy104]; with_reducible exact H) | (have H2_ := (Option.bind_some _ _).symm.trans H; rw [hy104]; with_reducible exact H2_) | (have H2_ := (Option.bind_some _ _).symm.trans H; with_reducible exact H2_) | with_reducible exact H | (rw [hy104]; exact H) | exact H
              have Ny104 := Aside0.mk hy104
              clear hy104
              replace H := Option.bind_eq_some_iff.mp H
              obtain ⟨⟨t107, t108⟩, A170, H⟩ := H
              replace H : (some (t107, t102, 0)) = some (r1, r2, r3) := H
              have A17 := Aside0.mk A170
              clear A170
              simp only [Option.some.injEq, Prod.mk.injEq] at H
              obtain ⟨rfl, rfl, rfl⟩ := H
              go_wp2_with (first | ((with_reducible refine gate_callee (f := 97) rfl ?_); refine goesL_ (some 42) rfl rfl Tryz.func97 (by kernel_rfl) rfl #[.string a0] rfl (by (try simp only [List.map_toArray, List.map_cons, List.map_nil]); first | done | rfl | (simp only [List.length_drop, List.length_take]; rfl)) ?_; (with_reducible refine (quote_escape.calls a0 t101 t102 t103 _ (hG.below (by first | ((repeat (first | (with_reducible first | exact HB.out | apply below_alloc | apply pw_below_drewN | apply below_drew1 | (refine Glob.below_set ?_ (by assumption) _ _ _)) | exact HB.out)); done) | (refine Drawn0.below ?_; repeat (first | exact Drawn0.refl _ | assumption | apply Drawn0.step)))) A15.out).mono ?_); rintro e w18 ⟨rfl, hb⟩; refine ⟨_, rfl, ?_⟩; have n0_ := Aside0.mk (below_step (by repeat (first | (with_reducible first | exact HB.out | apply below_alloc | apply pw_below_drewN | apply below_drew1) | exact HB.out)) hb); clear HB; have HB := n0_; clear n0_; (try clear hb); (try clear hb2); (try clear hk); (try clear hi)) | ((with_reducible refine gate_dst (N := 51) rfl ?_); (try (refine gate_guard (by rfl) ?_; dsimp only)); refine Kd.R_lit (Kd.int .i64) _ 3 ?hg (N := 51) ?hd (xs := ([t101] : List Int)) (inner := [.int .i64 t101]) (ok := fun _ => True) (okp := fun _ => True) ?hr ?hp (fun _ hk => hk) trivial (Below.refl _ _) (Nat.le_refl _) (by simp) ?_; (case hd => rfl); (case hg => rfl); (case hr => first | (go_simp; done) | (go_simp; rfl)); (case hp => exact (Reps.one (show Kd.M (Kd.int .i64) _ _ _ t101 [.int .i64 t101] from rfl) (Reps.none _ _))); intro v105 w19 ho20 hb hg_ hnew_; clear hg_ hnew_; (first | rw [← Ny104.out] at ho20 | (simp only [Int.reduceToNat] at ho20; rw [← Ny104.out] at ho20)); have n0_ := Aside0.mk (Kd.R_lower ho20 (below_size (by repeat (first | (with_reducible first | exact HB.out | apply below_alloc | apply pw_below_drewN | apply below_drew1) | exact HB.out)))); have n1_ := Aside0.mk (below_step (by repeat (first | (with_reducible first | exact HB.out | apply below_alloc | apply pw_below_drewN | apply below_drew1) | exact HB.out)) hb); clear HB; have HO106 := n0_; have HB := n1_; clear n0_ n1_; clear hb ho20; obtain ⟨Ao21, co21, eo21⟩ := Kd.R_slice HO106.out; subst eo21) | ((with_reducible refine gate_callee (f := 98) rfl ?_); refine goesL_ (some 52) rfl rfl Tryz.func98 (by kernel_rfl) rfl #[.slice Ao21 y104.length co21] rfl (by (try simp only [List.map_toArray, List.map_cons, List.map_nil]); first | done | rfl | (simp only [List.length_drop, List.length_take]; rfl)) ?_; (with_reducible refine (utf_Encode.calls _ _ y104 t107 t108 _ ?side1 ?side2 (hG.below (by first | ((repeat (first | (with_reducible first | exact HB.out | apply below_alloc | apply pw_below_drewN | apply below_drew1 | (refine Glob.below_set ?_ (by assumption) _ _ _)) | exact HB.out)); done) | (refine Drawn0.below ?_; repeat (first | exact Drawn0.refl _ | assumption | apply Drawn0.step)))) A17.out).mono ?_); (case side1 => repeat (first | exact (Kd.R_reads' HO106.out).2.2 | (with_reducible refine Kd.C_alloc ?_ _) | (with_reducible refine Kd.C_drewN ?_ _) | (with_reducible refine Kd.C_drew ?_))); (case side2 => exact (Kd.R_reads' HO106.out).2.1); rintro e w22 ⟨rfl, hb⟩; refine ⟨_, rfl, ?_⟩; have n0_ := Aside0.mk (Kd.R_below (by (with_reducible repeat (first | apply Kd.R_alloc | apply Kd.R_drewN | apply Kd.R_drew)); exact HO106.out) hb); have n1_ := Aside0.mk (below_step (by repeat (first | (with_reducible first | exact HB.out | apply below_alloc | apply pw_below_drewN | apply below_drew1) | exact HB.out)) hb); clear HO106; clear HB; have HO106 := n0_; have HB := n1_; clear n0_ n1_; (try clear hb); (try clear hb2); (try clear hk); (try clear hi)))
              go_ret3
              exact ⟨by first | rfl | (simp [errW_none, errW_some] <;> rfl) | (simp [*, errW_none, errW_some] <;> rfl), by repeat (first | (with_reducible first | exact HB.out | apply below_alloc | apply pw_below_drewN | apply below_drew1) | exact HB.out)⟩
            · rw [if_neg c16] at H
              have c16b0 : (t103 == 0) = false := beq_eq_false_iff_ne.mpr c16
              have c16b1 : (t103 != 0) = true := bne_iff_ne.mpr c16
              simp only [Option.some.injEq, Prod.mk.injEq] at H
              obtain ⟨rfl, rfl, rfl⟩ := H
              go_wp2_with (first | ((with_reducible refine gate_callee (f := 97) rfl ?_); refine goesL_ (some 42) rfl rfl Tryz.func97 (by kernel_rfl) rfl #[.string a0] rfl (by (try simp only [List.map_toArray, List.map_cons, List.map_nil]); first | done | rfl | (simp only [List.length_drop, List.length_take]; rfl)) ?_; (with_reducible refine (quote_escape.calls a0 t101 t102 t103 _ (hG.below (by first | ((repeat (first | (with_reducible first | exact HB.out | apply below_alloc | apply pw_below_drewN | apply below_drew1 | (refine Glob.below_set ?_ (by assumption) _ _ _)) | exact HB.out)); done) | (refine Drawn0.below ?_; repeat (first | exact Drawn0.refl _ | assumption | apply Drawn0.step)))) A15.out).mono ?_); rintro e w23 ⟨rfl, hb⟩; refine ⟨_, rfl, ?_⟩; have n0_ := Aside0.mk (below_step (by repeat (first | (with_reducible first | exact HB.out | apply below_alloc | apply pw_below_drewN | apply below_drew1) | exact HB.out)) hb); clear HB; have HB := n0_; clear n0_; (try clear hb); (try clear hb2); (try clear hk); (try clear hi)))
              go_ret3
              exact ⟨by first | rfl | (simp [errW_none, errW_some] <;> rfl) | (simp [*, errW_none, errW_some] <;> rfl), by repeat (first | (with_reducible first | exact HB.out | apply below_alloc | apply pw_below_drewN | apply below_drew1) | exact HB.out)⟩
          · replace c14 := Bool.eq_false_iff.mpr c14
            subst c14
            have H1 : ((utf_First.f a0).bind fun bt109 => ((quote_may.f bt109.1).bind fun t111 => (if t111 = true then (if 0 ≤ bt109.2 then (if bt109.2 ≤ (a0.size : Int) then (some (a0.extract 0 (bt109.2 : Int).toNat, bt109.2, 0)) else (none)) else (none)) else (some ((⟨#[]⟩ : ByteArray), 0, 8))))) = some (r1, r2, r3) := by rw [if_neg (show ¬ (false = true) by decide)] at H; exact H
            clear H
            have H := H1
            clear H1
            replace H := Option.bind_eq_some_iff.mp H
            obtain ⟨⟨t109, t110⟩, A240, H⟩ := H
            replace H : ((quote_may.f t109).bind fun t111 => (if t111 = true then (if 0 ≤ t110 then (if t110 ≤ (a0.size : Int) then (some (a0.extract 0 (t110 : Int).toNat, t110, 0)) else (none)) else (none)) else (some ((⟨#[]⟩ : ByteArray), 0, 8)))) = some (r1, r2, r3) := H
            have A24 := Aside0.mk A240
            clear A240
            replace H := Option.bind_eq_some_iff.mp H
            obtain ⟨t111, A250, H⟩ := H
            replace H : (if t111 = true then (if 0 ≤ t110 then (if t110 ≤ (a0.size : Int) then (some (a0.extract 0 (t110 : Int).toNat, t110, 0)) else (none)) else (none)) else (some ((⟨#[]⟩ : ByteArray), 0, 8))) = some (r1, r2, r3) := H
            have A25 := Aside0.mk A250
            clear A250
            by_cases c26 : t111 = true
            · subst c26
              have H1 : (if 0 ≤ t110 then (if t110 ≤ (a0.size : Int) then (some (a0.extract 0 (t110 : Int).toNat, t110, 0)) else (none)) else (none)) = some (r1, r2, r3) := by rw [if_pos rfl] at H; exact H
              clear H
              have H := H1
              clear H1
              by_cases c27 : 0 ≤ t110
              · rw [if_pos c27] at H
                have c27b0 := eq_true c27
                have c27b1 : decide (0 ≤ t110) = true := decide_eq_true c27
                clear c27
                by_cases c28 : t110 ≤ (a0.size : Int)
                · rw [if_pos c28] at H
                  have c28b0 := eq_true c28
                  have c28b1 : decide (t110 ≤ (a0.size : Int)) = true := decide_eq_true c28
                  clear c28
                  simp only [Option.some.injEq, Prod.mk.injEq] at H
                  obtain ⟨rfl, rfl, rfl⟩ := H
                  go_wp2_with (first | ((with_reducible refine gate_callee (f := 35) rfl ?_); refine goesL_ (some 59) rfl rfl Tryz.func35 (by kernel_rfl) rfl #[.string a0] rfl (by (try simp only [List.map_toArray, List.map_cons, List.map_nil]); first | done | rfl | (simp only [List.length_drop, List.length_take]; rfl)) ?_; (with_reducible refine (utf_First.calls a0 t109 t110 _ (hG.below (by first | ((repeat (first | (with_reducible first | exact HB.out | apply below_alloc | apply pw_below_drewN | apply below_drew1 | (refine Glob.below_set ?_ (by assumption) _ _ _)) | exact HB.out)); done) | (refine Drawn0.below ?_; repeat (first | exact Drawn0.refl _ | assumption | apply Drawn0.step)))) A24.out).mono ?_); rintro e w29 ⟨rfl, hb⟩; refine ⟨_, rfl, ?_⟩; have n0_ := Aside0.mk (below_step (by repeat (first | (with_reducible first | exact HB.out | apply below_alloc | apply pw_below_drewN | apply below_drew1) | exact HB.out)) hb); clear HB; have HB := n0_; clear n0_; (try clear hb); (try clear hb2); (try clear hk); (try clear hi)) | ((with_reducible refine gate_callee (f := 36) rfl ?_); refine goesL_ (some 63) rfl rfl Tryz.func36 (by kernel_rfl) rfl #[.int .i64 t109] rfl (by (try simp only [List.map_toArray, List.map_cons, List.map_nil]); first | done | rfl | (simp only [List.length_drop, List.length_take]; rfl)) ?_; (with_reducible refine (quote_may.calls t109 true _ (hG.below (by first | ((repeat (first | (with_reducible first | exact HB.out | apply below_alloc | apply pw_below_drewN | apply below_drew1 | (refine Glob.below_set ?_ (by assumption) _ _ _)) | exact HB.out)); done) | (refine Drawn0.below ?_; repeat (first | exact Drawn0.refl _ | assumption | apply Drawn0.step)))) A25.out).mono ?_); rintro e w' ⟨rfl, ⟨nd, rfl⟩⟩; refine ⟨_, rfl, ?_⟩))
                  go_ret3
                  exact ⟨by first | rfl | (simp [errW_none, errW_some] <;> rfl) | (simp [*, errW_none, errW_some] <;> rfl), by repeat (first | (with_reducible first | exact HB.out | apply below_alloc | apply pw_below_drewN | apply below_drew1) | exact HB.out)⟩
                · rw [if_neg c28] at H
                  exact absurd H (by simp)
              · rw [if_neg c27] at H
                exact absurd H (by simp)
            · replace c26 := Bool.eq_false_iff.mpr c26
              subst c26
              have H1 : (some ((⟨#[]⟩ : ByteArray), 0, 8)) = some (r1, r2, r3) := by rw [if_neg (show ¬ (false = true) by decide)] at H; exact H
              clear H
              have H := H1
              clear H1
              simp only [Option.some.injEq, Prod.mk.injEq] at H
              obtain ⟨rfl, rfl, rfl⟩ := H
              go_wp2_with (first | ((with_reducible refine gate_callee (f := 35) rfl ?_); refine goesL_ (some 59) rfl rfl Tryz.func35 (by kernel_rfl) rfl #[.string a0] rfl (by (try simp only [List.map_toArray, List.map_cons, List.map_nil]); first | done | rfl | (simp only [List.length_drop, List.length_take]; rfl)) ?_; (with_reducible refine (utf_First.calls a0 t109 t110 _ (hG.below (by first | ((repeat (first | (with_reducible first | exact HB.out | apply below_alloc | apply pw_below_drewN | apply below_drew1 | (refine Glob.below_set ?_ (by assumption) _ _ _)) | exact HB.out)); done) | (refine Drawn0.below ?_; repeat (first | exact Drawn0.refl _ | assumption | apply Drawn0.step)))) A24.out).mono ?_); rintro e w30 ⟨rfl, hb⟩; refine ⟨_, rfl, ?_⟩; have n0_ := Aside0.mk (below_step (by repeat (first | (with_reducible first | exact HB.out | apply below_alloc | apply pw_below_drewN | apply below_drew1) | exact HB.out)) hb); clear HB; have HB := n0_; clear n0_; (try clear hb); (try clear hb2); (try clear hk); (try clear hi)) | ((with_reducible refine gate_callee (f := 36) rfl ?_); refine goesL_ (some 63) rfl rfl Tryz.func36 (by kernel_rfl) rfl #[.int .i64 t109] rfl (by (try simp only [List.map_toArray, List.map_cons, List.map_nil]); first | done | rfl | (simp only [List.length_drop, List.length_take]; rfl)) ?_; (with_reducible refine (quote_may.calls t109 false _ (hG.below (by first | ((repeat (first | (with_reducible first | exact HB.out | apply below_alloc | apply pw_below_drewN | apply below_drew1 | (refine Glob.below_set ?_ (by assumption) _ _ _)) | exact HB.out)); done) | (refine Drawn0.below ?_; repeat (first | exact Drawn0.refl _ | assumption | apply Drawn0.step)))) A25.out).mono ?_); rintro e w' ⟨rfl, ⟨nd, rfl⟩⟩; refine ⟨_, rfl, ?_⟩))
              go_ret3
              exact ⟨by first | rfl | (simp [errW_none, errW_some] <;> rfl) | (simp [*, errW_none, errW_some] <;> rfl), by repeat (first | (with_reducible first | exact HB.out | apply below_alloc | apply pw_below_drewN | apply below_drew1) | exact HB.out)⟩
  · rw [if_neg c3] at H
    exact absurd H (by simp)

end Go.Proofs.YtmkdjgmdfhagfaaGreatDoor.PX

/- What the program reads at once in quotes, and its escapes, are those by definition; conditions: the text lies in memory. -/
namespace Go.Proofs.YtmkdjgmdfhagfaaGreatDoor.Utf
open Go.RowKit Go.Proofs.YtmkdjgmdfhagfaaGreatDoor.PX Go.Proofs.YtmkdjgmdfhagfaaGreatDoor.Plug Go.Proofs.YtmkdjgmdfhagfaaGreatDoorW.PrintWords Go.Proofs.YtmkdjgmdfhagfaaGreatDoorW.PrintLast

theorem prog_may (n : Int) : quote_may.f n = some (may n) := by
  unfold quote_may.f
  rw [prog_printable, Option.bind_some]
  unfold may
  cases prt n
  · rfl
  · rw [if_pos rfl]
    by_cases a : n = 9
    · subst a; rfl
    rw [if_neg a]
    by_cases b : n = 10
    · subst b; rfl
    rw [if_neg b, bne_iff_ne.2 a, bne_iff_ne.2 b]; rfl

theorem prog_escape (s : ByteArray) (hs : s.size ≤ 140737488351232) : quote_escape.f s = some ((escB s.data.toList).1, ((escB s.data.toList).2.1 : Int), (escB s.data.toList).2.2) := by
  unfold quote_escape.f; rw [if_pos hs]

theorem prog_one (K : Nat) (s : ByteArray) (q : Nat) (hs : s.size ≤ 140737488351232) (h0 : 0 < s.size) :
    quote_one.f (K + 4) s (q : Int) = some (⟨(oneB s.data.toList q).1.toArray⟩, ((oneB s.data.toList q).2.1 : Int), (oneB s.data.toList q).2.2) := by
  have hL := size_list s
  have hb0 := bt_at_ s 0
  have hb1 := bt_at_ s 1
  rw [show ((0 : Nat) : Int) = 0 from rfl] at hb0
  rw [show ((1 : Nat) : Int) = 1 from rfl] at hb1
  have hne : s.data.toList ≠ [] := fun e => by rw [e, List.length_nil] at hL; omega
  have hj : ∀ b, quote_one.j0 (K + 4) s b = if b = true then ((quote_escape.f s).bind fun bt101 => (if bt101.2.2 = 0 then ((utf_Encode.f (([bt101.1] : List Int))).bind fun bt107 => (some (bt107.1, bt101.2.1, 0))) else (some ((⟨#[]⟩ : ByteArray), 0, bt101.2.2)))) else ((utf_First.f s).bind fun bt109 => ((quote_may.f bt109.1).bind fun t111 => (if t111 = true then (if 0 ≤ bt109.2 then (if bt109.2 ≤ (s.size : Int) then (some (s.extract 0 (bt109.2 : Int).toNat, bt109.2, 0)) else (none)) else (none)) else (some ((⟨#[]⟩ : ByteArray), 0, 8))))) := fun b => by
    rw [show K + 4 = K + 3 + 1 from rfl, quote_one.j0]
  unfold quote_one.f oneB
  rw [if_pos (by omega), hb0, hb1]
  by_cases a : at_ s.data.toList 0 = q
  · rw [if_pos a, if_pos (by omega)]
    by_cases b : q = 39
    · rw [if_pos (by omega)]
      by_cases c : 1 < s.size
      · rw [if_pos (by omega), if_pos (by omega)]
        by_cases d : at_ s.data.toList 1 = 39
        · rw [if_pos (by omega), if_pos ⟨b, by omega, d⟩]; rfl
        · rw [if_neg (by omega), if_neg (fun e => d e.2.2)]; rfl
      · rw [if_neg (by omega), if_neg (show ¬ (q = 39 ∧ 1 < s.data.toList.length ∧ at_ s.data.toList 1 = 39) from fun e => c (by rw [hL]; exact e.2.1))]; rfl
    · rw [if_neg (by omega), if_neg (fun e => b e.1)]; rfl
  · rw [if_neg a, if_neg (by omega)]
    have last : quote_one.j0 (K + 4) s false = some (⟨(if may (dec s.data.toList).1 = true then (s.data.toList.take (dec s.data.toList).2, (dec s.data.toList).2, (0 : Int)) else ([], 0, 8)).1.toArray⟩, ((if may (dec s.data.toList).1 = true then (s.data.toList.take (dec s.data.toList).2, (dec s.data.toList).2, (0 : Int)) else ([], 0, 8)).2.1 : Int), (if may (dec s.data.toList).1 = true then (s.data.toList.take (dec s.data.toList).2, (dec s.data.toList).2, (0 : Int)) else ([], 0, 8)).2.2) := by
      have hw := dec_len s.data.toList hne
      rw [hj, if_neg (by decide), prog_first, Option.bind_some]
      dsimp only
      rw [prog_may, Option.bind_some]
      cases hm : may (dec s.data.toList).1
      · rw [if_neg (by decide), if_neg (by decide)]; rfl
      · rw [if_pos rfl, if_pos rfl, if_pos (by omega), if_pos (by omega)]
        have : s.extract 0 (((dec s.data.toList).2 : Int)).toNat = ⟨(s.data.toList.take (dec s.data.toList).2).toArray⟩ := by
          have h5 := extract_list s 0 (dec s.data.toList).2
          rw [List.drop_zero, Nat.sub_zero] at h5
          rw [Int.toNat_natCast, ← h5]
        rw [this]
    by_cases b : q = 34
    · rw [if_pos (by omega)]
      by_cases c : at_ s.data.toList 0 = 92
      · rw [if_pos ⟨b, c⟩, c, hj, show ((((92 : Nat) : Int)) == 92) = true from rfl, if_pos rfl, prog_escape s hs, Option.bind_some]
        dsimp only
        by_cases d : (escB s.data.toList).2.2 = 0
        · have hsg := (escB_ok _ d).1
          rw [if_pos d, if_neg (by simpa using d), enc_one, if_pos hsg]; rfl
        · rw [if_neg d, if_pos d]; rfl
      · rw [if_neg (fun e => c e.2), show (((at_ s.data.toList 0 : Nat) : Int) == 92) = false by rw [beq_eq_false_iff_ne]; omega]
        exact last
    · rw [if_neg (by omega), if_neg (fun e => b e.1)]
      exact last
end Go.Proofs.YtmkdjgmdfhagfaaGreatDoor.Utf

/- Quoted texts read (quote.Read), by hand, in the form in which the printed functions are told. Conditions: the text has at most 2^40 bytes. -/
namespace Go.Proofs.YtmkdjgmdfhagfaaGreatDoor.Plug
open Go.RowKit Go.Proofs.YtmkdjgmdfhagfaaGreatDoor Go.Proofs.YtmkdjgmdfhagfaaGreatDoor.PX Go.Proofs.YtmkdjgmdfhagfaaGreatDoor.Utf Go.Proofs.YtmkdjgmdfhagfaaGreatDoorW.PrintWords Go.Proofs.YtmkdjgmdfhagfaaGreatDoorW.PrintLast

theorem rowF_move {w w1 : World} {B : Nat} {e : TypeId} {v : Value} {n : Nat} {xs : List Value} (h : w.ownsRowF B e 1 v n xs) (hm : ∀ k, v.ownBlock = some k → w1.heap[k]? = w.heap[k]?) : w1.ownsRowF B e 1 v n xs := by
  obtain ⟨h1, h2⟩ := h
  refine ⟨h1, ?_⟩
  rcases h2 with h2 | ⟨g, cap, cur, fz, rfl, hg, hh, r⟩
  · exact .inl h2
  · exact .inr ⟨g, cap, cur, fz, rfl, hg, (hm g (by simp [Value.ownBlock])).trans hh, r⟩
theorem bld_below {T e : TypeId} {B b : Nat} {bs : List Value} {w w1 : World} (h : Lib.IsBuilderF T e B b bs w) (hb : Below w.heap.size w w1) : Lib.IsBuilderF T e B b bs w1 := by
  have key : ∀ p, Lib.BuilderAtF T e B b p bs w → Lib.BuilderAtF T e B b p bs w1 := by
    rintro p ⟨h1, v, h2, h3, h4⟩
    refine ⟨h1, v, (hb.block b (Bld.at_lt h2)).trans h2, rowF_move h3 (fun k hk => hb.block k ?_), h4⟩
    rcases h3.2 with ⟨rfl, _⟩ | ⟨g, cap, cur, fz, rfl, hg, hh, _⟩
    · simp [Value.ownBlock] at hk
    · have : g = k := by simpa [Value.ownBlock] using hk
      subst this; exact Bld.at_lt hh
  exact h.elim (fun x => .inl (key _ x)) (fun x => .inr (key _ x))

theorem one_len (l : List UInt8) (q : Nat) : (oneB l q).1.length ≤ 4 := by
  unfold oneB
  split
  · split <;> simp
  split
  · split
    · simp
    · exact (enc_len _).2
  split
  · by_cases h : l = []
    · subst h; simp
    · have := dec_wide l h; simp; omega
  · simp

theorem two_put {w2 : World} {B t : Nat} {x y : Value} (h : w2.heap[B]? = some (.cells #[x, y] t (0, 0))) (a b : Value) :
    ((w2.setCell ⟨B, 0, none⟩ a).setCell ⟨B, 1, none⟩ b).cell? ⟨B, 0, none⟩ = some a ∧ ((w2.setCell ⟨B, 0, none⟩ a).setCell ⟨B, 1, none⟩ b).cell? ⟨B, 1, none⟩ = some b := by
  have h1 := blk_set h 0 a
  have h3 := blk_set h1 1 b
  exact ⟨by rw [blk_cell h3]; rfl, by rw [blk_cell h3]; rfl⟩

def quote_Read.f (a0 : ByteArray) : Option (ByteArray × Int × Int × Int) :=
  if a0.size ≤ 1099511627775 then some (⟨(readB a0.data.toList).1.toArray⟩, ((readB a0.data.toList).2.1 : Int), (readB a0.data.toList).2.2.1, ((readB a0.data.toList).2.2.2 : Int)) else none

set_option maxHeartbeats 1600000 in
set_option maxRecDepth 100000 in
theorem read_go (s : ByteArray) (q : Nat) (hq : q = 39 ∨ q = 34) (w : World) (hG : Glob.G w) (hs : s.size ≤ 1099511627775) (h0 : 0 < s.size) (hx : ∀ h : 0 < s.size, ((s[0]'h).toNat : Int) = (q : Int)) :
    Calls Tryz.prog 38 #[.string s] w fun e w' => e = .returned (.tuple #[.string ⟨(readF s.data.toList.length (s.data.toList.drop 1) q 1 []).1.toArray⟩, .int .i64 ((readF s.data.toList.length (s.data.toList.drop 1) q 1 []).2.1 : Int), .agg #[.int .i64 (readF s.data.toList.length (s.data.toList.drop 1) q 1 []).2.2.1, .int .i64 ((readF s.data.toList.length (s.data.toList.drop 1) q 1 []).2.2.2 : Int)]]) ∧ Below w.heap.size w w' := by
  have hL := Lib.hid (size_list s)
  have he : s.toList.isEmpty = false := by
    rw [Lib.toList_data]
    have := size_list s
    cases h : s.data.toList with
    | nil => rw [h, List.length_nil] at this; omega
    | cons a b => rfl
  obtain ⟨RR, hRR⟩ : ∃ RR, RR = readF s.data.toList.length (s.data.toList.drop 1) q 1 [] := ⟨_, rfl⟩
  rw [← hRR]
  obtain ⟨Q, hQ⟩ : ∃ Q, Q = q := ⟨_, rfl⟩
  rw [← hQ] at hRR
  have HR := Lib.hid hRR
  clear hRR
  rcases hq with rfl | rfl
  all_goals
    go_enter Tryz.func38, Tryz.ntmps38
    go_wp2
    go_loopw [6] (fun a wr => ∃ (i k : Nat) (acc : List UInt8), 1 ≤ i ∧ i ≤ s.size ∧ s.size ≤ i + k ∧ acc.length ≤ 4 * i ∧ Hid (readF k (s.data.toList.drop i) Q i acc = RR) ∧ a = .int .i64 i ∧ Lib.IsBuilderF 63 5 (w.heap.size + 1) (w.heap.size + 1) (Lib.byteCells acc) wr ∧ Below (w.heap.size + 1) (w.alloc (.cells #[.int .i64 0, .int .i64 0] 38)) wr) (fun a _ => s.size - (intOf a).toNat)
    case atStart =>
      have hfr := Lib.fresh_isBuilder 63 5 (w.alloc (.cells #[.int .i64 0, .int .i64 0] 38))
      have hsz : (w.alloc (.cells #[.int .i64 0, .int .i64 0] 38)).heap.size = w.heap.size + 1 := by simp
      rw [hsz] at hfr
      exact ⟨1, s.size, [], Nat.le_refl _, by omega, by omega, by simp, by rw [hL.out]; exact Lib.hid HR.out.symm, rfl, Lib.IsBuilderF.of hfr, (Below.refl _ _).alloc (by simp) _⟩
    case round =>
      obtain ⟨i, k, acc, hi0, hi, hk, hal, hst, rfl, hI, hb⟩ := hrel
      have hbw := ((Below.refl w.heap.size w).alloc (Nat.le_refl _) (.cells #[.int .i64 0, .int .i64 0] 38)).trans (hb.mono (by omega))
      have hGr := hG.below hbw
      have hf0 : wr.heap[w.heap.size]? = some (.cells #[.int .i64 0, .int .i64 0] 38 (0, 0)) := (hb.block w.heap.size (by omega)).trans (heap_alloc_new w _)
      by_cases hlt : i < s.size
      · have hc : decide ((i : Int) < (s.size : Int)) = true := by simp; omega
        have hne : s.data.toList.drop i ≠ [] := fun e => by
          have h2 := congrArg List.length e; rw [List.length_drop, ← hL.out, List.length_nil] at h2; omega
        have hlen : (s.data.toList.drop i).length = s.size - i := by rw [List.length_drop, ← hL.out]
        have hone := prog_one 0 (s.extract i s.size) Q (by rw [size_list, drop_list, hlen]; omega) (by rw [size_list, drop_list, hlen]; omega)
        rw [drop_list, hQ] at hone
        have hstep := hst.out
        obtain ⟨k, rfl⟩ : ∃ m, k = m + 1 := ⟨k - 1, by omega⟩
        rw [readF, if_neg hne, hlen, hQ] at hstep
        have h4 := one_len (s.data.toList.drop i) Q
        have hok := oneB_ok (s.data.toList.drop i) Q hne
        rw [hlen, hQ] at hok
        rw [hQ] at h4
        have hH : Hid (Lib.IsBuilderF 63 5 (w.heap.size + 1) (w.heap.size + 1) (Lib.byteCells acc) wr.drew) := by
          rcases hI with h | h
          · exact .inl h.drew
          · exact .inr h.drew
        generalize oneB (s.data.toList.drop i) _ = o at *
        obtain ⟨t, n, e⟩ := o
        simp only at hone hstep h4 hok
        have HO := Lib.hid hone
        clear hone hst hlen hne hI
        have fin : ∀ (w2 : World), Below wr.drew.heap.size wr.drew w2 → w2.heap[w.heap.size]? = some (.cells #[.int .i64 0, .int .i64 0] 38 (0, 0)) ∧ Below w.heap.size w w2 ∧ Below (w.heap.size + 1) (w.alloc (.cells #[.int .i64 0, .int .i64 0] 38)) w2 ∧ Lib.IsBuilderF 63 5 (w.heap.size + 1) (w.heap.size + 1) (Lib.byteCells acc) w2 := by
          intro w2 h2
          have hz := Bld.at_lt hf0
          have hzb := hb.size
          simp at hzb
          exact ⟨(h2.block w.heap.size hz).trans hf0, hbw.drew.trans (h2.mono hbw.size), hb.drew.trans (h2.mono (by simp at hzb ⊢; omega)), bld_below hH.out h2⟩
        have HF := Lib.hid fin
        have HG : Hid (Glob.G wr.drew) := Lib.hid (hGr.below (Below.drew (Below.refl _ _)))
        clear fin hH hf0
        by_cases c4 : e = 4
        · subst c4
          rw [if_pos rfl] at hstep
          have HS : Hid (([], 0, 4, s.size) = RR) := Lib.hid (by rw [show i + (s.size - i) = s.size by omega] at hstep; exact hstep)
          clear hstep hok
          go_wp2
          go_region_with (go_at_call 68; refine (quote_one.calls _ _ _ _ _ _ _ HG.out HO.out).mono ?_; rintro e w2 ⟨rfl, hb2⟩)
          all_goals
            obtain ⟨hf2, hbel, hbelB, hI2⟩ := HF.out _ hb2
            have hc0 : w2.cell? ⟨w.heap.size, 0, none⟩ = some (.int .i64 0) := by rw [blk_cell hf2]; rfl
            have hc1 : w2.cell? ⟨w.heap.size, 1, none⟩ = some (.int .i64 0) := by rw [blk_cell hf2]; rfl
            have hz0 := blk_frozen hf2 0
            have hz1 := blk_frozen hf2 1
            go_wp2
            have hset := two_put hf2 (.int .i64 4) (.int .i64 s.size)
            refine bodyPost_ret (v := .tuple #[.string ⟨#[]⟩, .int .i64 0, .agg #[.int .i64 4, .int .i64 s.size]]) (by simp [results, Tryz.results38, go_sem, hset.1, hset.2]) rfl ⟨by rw [← HS.out]; rfl, ?_⟩
            exact (hbel.setCell (p := ⟨w.heap.size, 0, none⟩) (Nat.le_refl _) _).setCell (p := ⟨w.heap.size, 1, none⟩) (Nat.le_refl _) _
        · have d4 : (e == 4) = false := beq_eq_false_iff_ne.2 c4
          rw [if_neg c4] at hstep
          by_cases c0 : e = 0
          · subst c0
            rw [if_neg (show ¬ ((0 : Int) ≠ 0) by decide)] at hstep
            by_cases cn : n = 0
            · subst cn
              rw [if_pos rfl] at hstep
              have HS : Hid ((acc, i + 1, 0, 0) = RR) := Lib.hid hstep
              clear hstep hok
              go_wp2
              go_region_with (go_at_call 68; refine (quote_one.calls _ _ _ _ _ _ _ HG.out HO.out).mono ?_; rintro e w2 ⟨rfl, hb2⟩)
              all_goals
                obtain ⟨hf2, hbel, hbelB, hI2⟩ := HF.out _ hb2
                have hc0 : w2.cell? ⟨w.heap.size, 0, none⟩ = some (.int .i64 0) := by rw [blk_cell hf2]; rfl
                have hc1 : w2.cell? ⟨w.heap.size, 1, none⟩ = some (.int .i64 0) := by rw [blk_cell hf2]; rfl
                have hz0 := blk_frozen hf2 0
                have hz1 := blk_frozen hf2 1
                go_wp2_with (go_at_call 32; refine (Bld.got _ _ _ acc _ hI2 (by have := hbelB.size; simp at this; omega)).mono ?_; rintro e w3 ⟨rfl, hb3⟩; have hf3 := (hb3.block w.heap.size (by omega)).trans hf2; have hd0 : w3.cell? ⟨w.heap.size, 0, none⟩ = some (.int .i64 0) := by { rw [blk_cell hf3]; rfl }; have hd1 : w3.cell? ⟨w.heap.size, 1, none⟩ = some (.int .i64 0) := by { rw [blk_cell hf3]; rfl }; have hy0 := blk_frozen hf3 0; have hy1 := blk_frozen hf3 1)
                have hset := two_put hf3 (.int .i64 0) (.int .i64 0)
                refine bodyPost_ret (v := .tuple #[.string ⟨acc.toArray⟩, .int .i64 ((i : Int) + 1), .agg #[.int .i64 0, .int .i64 0]]) (by simp [results, Tryz.results38, go_sem, hset.1, hset.2]) rfl ⟨by rw [← HS.out]; rfl, ?_⟩
                exact ((hbel.trans (hb3.mono (by omega))).setCell (p := ⟨w.heap.size, 0, none⟩) (Nat.le_refl _) _).setCell (p := ⟨w.heap.size, 1, none⟩) (Nat.le_refl _) _
            · rw [if_neg cn] at hstep
              have hle := (hok rfl cn).1
              have HS := Lib.hid hstep
              have dn : (((n : Nat) : Int) == 0) = false := by rw [beq_eq_false_iff_ne]; omega
              clear hstep hok
              go_wp2
              go_region_with (go_at_call 68; refine (quote_one.calls _ _ _ _ _ _ _ HG.out HO.out).mono ?_; rintro e w2 ⟨rfl, hb2⟩)
              all_goals
                obtain ⟨hf2, hbel, hbelB, hI2⟩ := HF.out _ hb2
                have hc0 : w2.cell? ⟨w.heap.size, 0, none⟩ = some (.int .i64 0) := by rw [blk_cell hf2]; rfl
                have hc1 : w2.cell? ⟨w.heap.size, 1, none⟩ = some (.int .i64 0) := by rw [blk_cell hf2]; rfl
                have hz0 := blk_frozen hf2 0
                have hz1 := blk_frozen hf2 1
                go_wp2_with (go_at_call 39; refine (Bld.text 63 Bld.lies_plain _ _ _ ⟨t.toArray⟩ _ hI2 (by rw [Lib.byteCells_length]; show acc.length + t.length ≤ _; omega) (by have := hbelB.size; simp at this; omega)).mono ?_; rintro e w3 ⟨rfl, h3, b3, k3⟩)
                go_roundw
                case rel => exact ⟨i + n, k, acc ++ t, by omega, by omega, by omega, by rw [List.length_append]; omega, Lib.hid (by rw [List.drop_drop, hQ] at *; exact HS.out), by go_num, by rw [Lib.byteCells_append]; exact Or.inr h3, hbelB.trans b3⟩
                case measure => simp [intOf]; omega
          · rw [if_pos c0] at hstep
            have d0 : (e == 0) = false := beq_eq_false_iff_ne.2 c0
            have d0' : (e != 0) = true := bne_iff_ne.2 c0
            have HS : Hid (([], 0, e, i) = RR) := Lib.hid hstep
            clear hstep hok
            go_wp2
            go_region_with (go_at_call 68; refine (quote_one.calls _ _ _ _ _ _ _ HG.out HO.out).mono ?_; rintro e w2 ⟨rfl, hb2⟩)
            all_goals
              obtain ⟨hf2, hbel, hbelB, hI2⟩ := HF.out _ hb2
              have hc0 : w2.cell? ⟨w.heap.size, 0, none⟩ = some (.int .i64 0) := by rw [blk_cell hf2]; rfl
              have hc1 : w2.cell? ⟨w.heap.size, 1, none⟩ = some (.int .i64 0) := by rw [blk_cell hf2]; rfl
              have hz0 := blk_frozen hf2 0
              have hz1 := blk_frozen hf2 1
              go_wp2
              have hset := two_put hf2 (.int .i64 e) (.int .i64 i)
              refine bodyPost_ret (v := .tuple #[.string ⟨#[]⟩, .int .i64 0, .agg #[.int .i64 e, .int .i64 i]]) (by simp [results, Tryz.results38, go_sem, hset.1, hset.2]) rfl ⟨by rw [← HS.out]; rfl, ?_⟩
              exact (hbel.setCell (p := ⟨w.heap.size, 0, none⟩) (Nat.le_refl _) _).setCell (p := ⟨w.heap.size, 1, none⟩) (Nat.le_refl _) _
      · have hc : decide ((i : Int) < (s.size : Int)) = false := by simp; omega
        have hc0 : wr.cell? ⟨w.heap.size, 0, none⟩ = some (.int .i64 0) := by rw [blk_cell hf0]; rfl
        have hc1 : wr.cell? ⟨w.heap.size, 1, none⟩ = some (.int .i64 0) := by rw [blk_cell hf0]; rfl
        have hz0 := blk_frozen hf0 0
        have hz1 := blk_frozen hf0 1
        have hst2 := hst.out
        rw [List.drop_of_length_le (by rw [← hL.out]; omega), readF_nil, show i = s.size by omega] at hst2
        have HS := Lib.hid hst2
        clear hst hst2
        go_wp2
        have hset := two_put hf0 (.int .i64 4) (.int .i64 s.size)
        refine bodyPost_ret (v := .tuple #[.string ⟨#[]⟩, .int .i64 0, .agg #[.int .i64 4, .int .i64 s.size]]) (by simp [results, Tryz.results38, go_sem, hset.1, hset.2]) rfl ⟨by rw [← HS.out]; rfl, ?_⟩
        exact (hbw.setCell (p := ⟨w.heap.size, 0, none⟩) (Nat.le_refl _) _).setCell (p := ⟨w.heap.size, 1, none⟩) (Nat.le_refl _) _

set_option maxHeartbeats 1600000 in
set_option maxRecDepth 100000 in
theorem quote_Read.calls (a0 : ByteArray) (r1 : ByteArray) (r2 r3 r4 : Int) (w : World) (hG : Glob.G w) (h : quote_Read.f a0 = some (r1, r2, r3, r4)) :
    Calls Tryz.prog 38 #[.string a0] w fun e w' => e = .returned (.tuple #[.string r1, .int .i64 r2, .agg #[.int .i64 r3, .int .i64 r4]]) ∧ Below w.heap.size w w' := by
  unfold quote_Read.f at h
  by_cases hs : a0.size ≤ 1099511627775
  · rw [if_pos hs] at h
    simp only [Option.some.injEq, Prod.mk.injEq] at h
    obtain ⟨rfl, rfl, rfl, rfl⟩ := h
    have hL := size_list a0
    have hx : ∀ h : 0 < a0.size, ((a0[0]'h).toNat : Int) = (at_ a0.data.toList 0 : Int) := fun h => by rw [← bt_at_]; exact bt_at a0 0 h
    by_cases hc : a0.data.toList = [] ∨ (at_ a0.data.toList 0 ≠ 39 ∧ at_ a0.data.toList 0 ≠ 34)
    · rw [show readB a0.data.toList = ([], 0, 3, 0) by unfold readB; rw [if_pos hc]]
      by_cases h0 : a0.data.toList = []
      · have he : a0.toList.isEmpty = true := by rw [Lib.toList_data, h0]; rfl
        clear hc hx hL hs hG h0
        go_enter Tryz.func38, Tryz.ntmps38
        go_wp2
        refine bodyPost_ret (v := .tuple #[.string ⟨#[]⟩, .int .i64 0, .agg #[.int .i64 3, .int .i64 0]]) (by simp [results, Tryz.results38, go_sem]) rfl ⟨rfl, ?_⟩
        exact (Below.refl _ w).alloc (Nat.le_refl _) _
      · have h1 : 0 < a0.size := by rw [hL]; exact List.length_pos_iff.2 h0
        have he : a0.toList.isEmpty = false := by
          rw [Lib.toList_data]; simpa using h0
        have hq := hc.resolve_left h0
        generalize at_ a0.data.toList 0 = x at *
        have d1 : ((x : Int) == 39) = false := by rw [beq_eq_false_iff_ne]; omega
        have d2 : ((x : Int) == 34) = false := by rw [beq_eq_false_iff_ne]; omega
        have d3 : ((x : Int) != 39) = true := by rw [bne_iff_ne]; omega
        have d4 : ((x : Int) != 34) = true := by rw [bne_iff_ne]; omega
        clear hc hL hs hG h0 hq
        go_enter Tryz.func38, Tryz.ntmps38
        go_wp2
        refine bodyPost_ret (v := .tuple #[.string ⟨#[]⟩, .int .i64 0, .agg #[.int .i64 3, .int .i64 0]]) (by simp [results, Tryz.results38, go_sem]) rfl ⟨rfl, ?_⟩
        exact (Below.refl _ w).alloc (Nat.le_refl _) _
    · have h0 : a0.data.toList ≠ [] := fun e => hc (.inl e)
      have h1 : 0 < a0.size := by rw [hL]; exact List.length_pos_iff.2 h0
      have hq : at_ a0.data.toList 0 = 39 ∨ at_ a0.data.toList 0 = 34 := by
        by_cases c : at_ a0.data.toList 0 = 39
        · exact .inl c
        · by_cases d : at_ a0.data.toList 0 = 34
          · exact .inr d
          · exact absurd (.inr ⟨c, d⟩) hc
      rw [show readB a0.data.toList = readF a0.data.toList.length (a0.data.toList.drop 1) (at_ a0.data.toList 0) 1 [] by unfold readB; rw [if_neg hc]]
      exact read_go a0 _ hq w hG hs h1 hx
  · rw [if_neg hs] at h; cases h
end Go.Proofs.YtmkdjgmdfhagfaaGreatDoor.Plug

/- A number's hexadecimal digits (strconv.FormatInt, base 16), and a text repeated no more than once, by hand. Conditions: numbers from 0 to 65535. -/
namespace Go.Proofs.YtmkdjgmdfhagfaaGreatDoor.Plug
open Go.RowKit Go.Proofs.YtmkdjgmdfhagfaaGreatDoor Go.Proofs.YtmkdjgmdfhagfaaGreatDoor.Utf Go.Proofs.YtmkdjgmdfhagfaaGreatDoorW.PrintWords Go.Proofs.YtmkdjgmdfhagfaaGreatDoorW.PrintLast

theorem tz_idx : IntKind.u64.wrap (bits .and .u64 16 (IntKind.u64.wrap (-16)) * 285870213051353865) / 288230376151711744 = 15 := by decide +kernel
theorem tz_name : Tryz.prog.globalNamed "math/bits.deBruijn64tab" = some 7 := by kernel_rfl

set_option maxRecDepth 100000 in
theorem trail (w : World) (hG : Glob.G w) : Calls Tryz.prog 162 #[.int .u64 16] w fun e w' => e = .returned (.int .i64 4) ∧ w' = w := by
  have hc : w.cell? ⟨7, 15, none⟩ = some (.int .u8 4) := hG.tz.cell tz_name 15 (by decide)
  have hi := tz_idx
  go_enter Tryz.func162, Tryz.ntmps162
  go_wp2
  go_ret
  exact ⟨rfl, rfl⟩

/-- A number's hexadecimal digits, no more than are needed. -/
def hexD : Nat → Nat → List UInt8
  | 0, _ => []
  | k + 1, n => if n < 16 then [hexc n] else hexD k (n / 16) ++ [hexc (n % 16)]

theorem and15 (u : Nat) (h : u < 65536) : bits .and .u64 (u : Int) 15 = ((u % 16 : Nat) : Int) := by
  have h1 := u64_and_nat u 15 (by omega) (by decide)
  rw [show ((15 : Nat) : Int) = 15 from rfl, show u &&& 15 = u % 16 from Nat.and_two_pow_sub_one_eq_mod u 4] at h1
  exact h1
def digitsB : ByteArray := ⟨#[48, 49, 50, 51, 52, 53, 54, 55, 56, 57, 97, 98, 99, 100, 101, 102, 103, 104, 105, 106, 107, 108, 109, 110, 111, 112, 113, 114, 115, 116, 117, 118, 119, 120, 121, 122]⟩
theorem dig_fact : ∀ r : Fin 16, digitsB.data[r.val]? = some (hexc r.val) := by decide +kernel
theorem dig_at (r : Nat) (hr : r < 16) (h : r < (⟨#[48, 49, 50, 51, 52, 53, 54, 55, 56, 57, 97, 98, 99, 100, 101, 102, 103, 104, 105, 106, 107, 108, 109, 110, 111, 112, 113, 114, 115, 116, 117, 118, 119, 120, 121, 122]⟩ : ByteArray).size) :
    (((⟨#[48, 49, 50, 51, 52, 53, 54, 55, 56, 57, 97, 98, 99, 100, 101, 102, 103, 104, 105, 106, 107, 108, 109, 110, 111, 112, 113, 114, 115, 116, 117, 118, 119, 120, 121, 122]⟩ : ByteArray)[r]'h).toNat : Int) = ((hexc r).toNat : Int) := by
  have := dig_fact ⟨r, hr⟩
  simp only at this
  have h2 : digitsB.data[r]? = some (digitsB.data[r]'h) := Array.getElem?_eq_getElem h
  rw [h2] at this
  have h3 := Option.some.inj this
  exact congrArg (fun b : UInt8 => (b.toNat : Int)) h3

set_option maxHeartbeats 1600000 in
set_option maxRecDepth 100000 in
theorem fmt_bits (n : Nat) (hn : n < 65536) (w : World) (hG : Glob.G w) :
    Calls Tryz.prog 126 #[.slice none 0 0, .int .u64 (n : Int), .int .i64 16, .bool false, .bool false] w fun e w' => e = .returned (.tuple #[.slice none 0 0, .string ⟨(hexD 4 n).toArray⟩]) ∧ Below w.heap.size w w' := by
  have hz : Tryz.zeroCells175.size = 65 := by kernel_rfl
  go_enter Tryz.func126, Tryz.ntmps126
  go_wp2_with (first | (go_at_call 162; refine (trail _ (hG.below ((Below.refl _ _).alloc (Nat.le_refl _) _))).mono ?_; rintro e w1 ⟨rfl, rfl⟩) | (go_at_call 147; go_enter Tryz.func147, Tryz.ntmps147) | (go_at_call 146; go_enter Tryz.func146, Tryz.ntmps146))
  go_loopw [1, 13] (fun vu vi wr => ∃ (u q : Nat) (arr : Array Value) (ds : List UInt8), vu = .int .u64 u ∧ vi = .int .i64 ((q : Int) + 1) ∧ 60 < q ∧ q + ds.length = 64 ∧ u < 16 ^ (q - 60) ∧ Hid (hexD (q - 60) u ++ ds = hexD 4 n) ∧ wr.heap[w.heap.size]? = some (.cells arr 175 (0, 0)) ∧ arr.size = 65 ∧ Hid (∀ k (hk : k < ds.length), arr[q + 1 + k]? = some (.int .u8 (ds[k].toNat : Int))) ∧ Below w.heap.size w wr) (fun vu _ _ => (intOf vu).toNat)
  case atStart => exact ⟨n, 64, Tryz.zeroCells175, [], rfl, rfl, by decide, rfl, by omega, Lib.hid (by simp), heap_alloc_new w _, hz, Lib.hid (fun k hk => by simp at hk), (Below.refl _ _).alloc (Nat.le_refl _) _⟩
  case round =>
    obtain ⟨u, q, arr, ds, rfl, rfl, hq, hdl, hu, hst, hblk, har, hds, hb⟩ := hrel
    have hu2 : u < 65536 := by
      rcases (by omega : q = 61 ∨ q = 62 ∨ q = 63 ∨ q = 64) with rfl | rfl | rfl | rfl <;> simp at hu <;> omega
    have hand := and15 u hu2
    have hlt := Bld.at_lt hblk
    have hcell : wr.cell? ⟨w.heap.size, q, none⟩ = some (arr[q]'(by omega)) := by rw [blk_cell hblk]; exact Array.getElem?_eq_getElem (by omega)
    have hfz := blk_frozen hblk q
    by_cases hg : 16 ≤ u
    · have hc : decide ((u : Int) ≥ 16) = true := by simp; omega
      have hr : u % 16 < 16 := by omega
      have hdig := dig_at (u % 16) hr
      have hq2 : 61 < q := by
        rcases (by omega : q = 61 ∨ 61 < q) with rfl | h
        · simp at hu; omega
        · exact h
      have hset := blk_set hblk q (.int .u8 ((hexc (u % 16)).toNat : Int))
      have hst2 := hst.out
      rw [show q - 60 = (q - 1 - 60) + 1 by omega, hexD, if_neg (by omega), List.append_assoc, List.singleton_append] at hst2
      have HS := Lib.hid hst2
      have hu3 : u / 16 < 16 ^ (q - 1 - 60) := by
        rw [Nat.div_lt_iff_lt_mul (by decide), ← Nat.pow_succ]
        rw [show (q - 1 - 60).succ = q - 60 by omega]; exact hu
      have HD : Hid (∀ k (hk : k < (hexc (u % 16) :: ds).length), (arr.setIfInBounds q (.int .u8 ((hexc (u % 16)).toNat : Int)))[q - 1 + 1 + k]? = some (.int .u8 ((hexc (u % 16) :: ds)[k].toNat : Int))) := by
        refine Lib.hid fun k hk => ?_
        rw [show q - 1 + 1 + k = q + k by omega]
        cases k with
        | zero => rw [Nat.add_zero, Array.getElem?_setIfInBounds_self_of_lt (by omega)]; rfl
        | succ k => rw [Array.getElem?_setIfInBounds_ne (by omega)]; have := hds.out k (by simpa using hk); rw [show q + (k + 1) = q + 1 + k by omega]; exact this
      clear hst hst2 hds
      go_wp2
      refine ⟨⟨.int .u64 ((u : Int) / 16), .int .i64 (q : Int), _, _, _, _, _, _, _, _, _, _, _, _, _, _, ⟨u / 16, q - 1, _, hexc (u % 16) :: ds, by first | rfl | (congr 1; omega), by congr 1; omega, by omega, by simp; omega, hu3, Lib.hid HS.out, hset, by simp [har], Lib.hid HD.out, hb.setCell (p := ⟨w.heap.size, q, none⟩) (Nat.le_refl _) _⟩, rfl⟩, ?_⟩
      simp [intOf]; omega
    · have hc : decide ((u : Int) ≥ 16) = false := by simp; omega
      have hdig := dig_at u (by omega)
      have hset := blk_set hblk q (.int .u8 ((hexc u).toNat : Int))
      have hst2 := hst.out
      rw [show q - 60 = (q - 1 - 60) + 1 by omega, hexD, if_pos (by omega), List.singleton_append] at hst2
      have hcv := run_convert_bytes_back (P := Tryz.prog) (wr.setCell ⟨w.heap.size, q, none⟩ (.int .u8 ((hexc u).toNat : Int))) 58 9 5 ⟨w.heap.size, q, none⟩ (65 - q) (hexc u :: ds) (by kernel_rfl) (by kernel_rfl) (by kernel_rfl) (fun k hk => by
        rw [show (Addr.add ⟨w.heap.size, q, none⟩ k) = ⟨w.heap.size, q + k, none⟩ by simp [Addr.add], blk_cell hset]
        cases k with
        | zero => rw [Nat.add_zero, Array.getElem?_setIfInBounds_self_of_lt (by omega)]; rfl
        | succ k => rw [Array.getElem?_setIfInBounds_ne (by omega), show q + (k + 1) = q + 1 + k by omega]; exact hds.out k (by simpa using hk))
      rw [List.length_cons, show ds.length + 1 = 65 - q by omega] at hcv
      have HS := Lib.hid hst2
      have l1 : ((q : Int) ≤ 65) = True := eq_true (by omega)
      have l2 : q ≤ 65 := by omega
      clear hst hst2 hds hset
      go_wp2
      go_ret2
      exact ⟨by rw [← HS.out]; rfl, hb.setCell (p := ⟨w.heap.size, q, none⟩) (Nat.le_refl _) _⟩

set_option maxHeartbeats 1600000 in
set_option maxRecDepth 100000 in
theorem fmt_in (n : Nat) (hn : n < 65536) (w : World) (hG : Glob.G w) :
    Calls Tryz.prog 100 #[.int .i64 (n : Int), .int .i64 16] w fun e w' => e = .returned (.string ⟨(hexD 4 n).toArray⟩) ∧ Below w.heap.size w w' := by
  have hd : decide ((n : Int) < 0) = false := decide_eq_false (by omega)
  go_enter Tryz.func100, Tryz.ntmps100
  go_wp2_with (go_at_call 126; (try rw [hd]); refine (fmt_bits n hn _ hG).mono ?_; rintro e w1 ⟨rfl, hb⟩)
  go_ret
  exact ⟨rfl, hb⟩

set_option maxRecDepth 100000 in
theorem fmt_out (n : Nat) (hn : n < 65536) (w : World) (hG : Glob.G w) :
    Calls Tryz.prog 89 #[.int .i64 (n : Int), .int .i64 16] w fun e w' => e = .returned (.string ⟨(hexD 4 n).toArray⟩) ∧ Below w.heap.size w w' := by
  go_enter Tryz.func89, Tryz.ntmps89
  go_wp2_with (go_at_call 100; refine (fmt_in n hn _ hG).mono ?_; rintro e w1 ⟨rfl, hb⟩)
  go_ret
  exact ⟨rfl, hb⟩

set_option maxRecDepth 100000 in
theorem repeat_none (s : ByteArray) (w : World) : Calls Tryz.prog 90 #[.string s, .int .i64 0] w fun e w' => e = .returned (.string ⟨#[]⟩) ∧ w' = w := by
  go_enter Tryz.func90, Tryz.ntmps90
  go_wp2
  go_ret
  exact ⟨rfl, rfl⟩
set_option maxRecDepth 100000 in
theorem repeat_one (s : ByteArray) (w : World) : Calls Tryz.prog 90 #[.string s, .int .i64 1] w fun e w' => e = .returned (.string s) ∧ w' = w := by
  go_enter Tryz.func90, Tryz.ntmps90
  go_wp2
  go_ret
  exact ⟨rfl, rfl⟩

theorem hexs_two (n : Nat) (h : n < 256) : hexs n 2 = if n < 16 then 48 :: hexD 4 n else hexD 4 n := by
  by_cases c : n < 16
  · rw [if_pos c]
    simp only [hexs, hexD]
    rw [if_pos c, Nat.div_eq_of_lt c, Nat.mod_eq_of_lt c]; rfl
  · rw [if_neg c]
    simp only [hexs, hexD]
    rw [if_neg c, if_pos (by omega), show n / 16 % 16 = n / 16 from Nat.mod_eq_of_lt (by omega)]; rfl
theorem hexs_four (n : Nat) (h : n < 65536) (h2 : 4096 ≤ n) : hexs n 4 = hexD 4 n := by
  simp only [hexs, hexD]
  rw [if_neg (by omega), if_neg (by omega), if_neg (by omega), if_pos (by omega), show n / 16 / 16 / 16 % 16 = n / 16 / 16 / 16 from Nat.mod_eq_of_lt (by omega)]
  simp
theorem hexD_len (n : Nat) (h : n < 65536) : (hexD 4 n).length = if n < 16 then 1 else if n < 256 then 2 else if n < 4096 then 3 else 4 := by
  simp only [hexD]
  by_cases c1 : n < 16
  · rw [if_pos c1, if_pos c1]; rfl
  rw [if_neg c1, if_neg c1]
  by_cases c2 : n < 256
  · rw [if_pos c2, if_pos (by omega)]; rfl
  rw [if_neg c2, if_neg (by omega)]
  by_cases c3 : n < 4096
  · rw [if_pos c3, if_pos (by omega)]; rfl
  rw [if_neg c3, if_neg (by omega)]
  rw [if_pos (by omega)]; rfl
end Go.Proofs.YtmkdjgmdfhagfaaGreatDoor.Plug

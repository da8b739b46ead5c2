/- Texts that stand behind one another, laid into one: what this claim needs of them. -/
import Derived.Test.YtiooacmplmcphaaGreatDoorBP0
import Derived.Deep.QuietTactic
import Derived.BigQuiet
import Derived.Outline
import Derived.Lib.SlTrimSet
import Derived.Shelf.Strings.SlTrimAscii
import Derived.Lib.AppendIntMem
import Derived.Lib.DecodeNEq
import Derived.Lib.Strings
import Derived.Deep.LoopGhost
import Derived.Test.YtiooacmplmcphaaGreatDoorProg
import Derived.Lib.OthersKept
import Derived.Lib.FrozenHead2
import Derived.Lib.RuneBytes
import Derived.Lib.Walk
import Derived.Lib.UnsafeStr
import Derived.Lib.AppendStr
import Derived.Lib.Hide
import Derived.WalkKit
import Derived.WalkSmall
import Derived.RowKit
import Derived.KernelRfl
import Derived.Laws.Externs
import Derived.Laws.IdiomCopy
import Derived.Laws.BitsLemmas
import Derived.Lib.MapLaws
import Derived.Lib.ConvBytes
import Derived.Lib.AtoiErrMem
import Derived.Laws.Strings3
import Derived.Laws.Closers25
import Derived.Laws.Closers25b
import Derived.Deep.RegionHeld3
import Derived.IntWalk
namespace Go.Proofs.YtiooacmplmcphaaGreatDoor.PX
open RowKit YtiooacmplmcphaaGreatDoorW.PrintWords YtiooacmplmcphaaGreatDoorW.PrintLast YtiooacmplmcphaaGreatDoorW.PrintMore YtiooacmplmcphaaGreatDoor
attribute [local go_sem] max2_int min2_int max_two min_two max_three min_three max_four min_four   -- for this text's walks alone
set_option linter.unusedVariables false
set_option linter.unusedSimpArgs false
def grommetlaw16_large.l0 : Nat → Int → List (S45) → Int → Int → List (S45) → Int → Option (Bool)
  | 0, _, _, _, _, _, _ => none
  | k + 1, x3, x12, x13, x14, x102000, x102001 => if x14 < x13 then (if 0 ≤ x14 then (if x14 < (x12.length : Int) then (grommetlaw16_large.l0 k (wrap64 (x3 + ((mn (((rd_T45 x12 x14).f2).length : Int) 2000) + (mn (((rd_T45 x12 x14).f1).size : Int) 2000)))) x12 x13 (wrap64 (x14 + 1)) x102000 x102001) else (none)) else (none)) else (if (x102000.length : Int) > 200 then (if (x102000.length : Int) ≤ 4096 then (some true) else (some (decide (x3 > 1200)))) else (some (decide (x3 > 1200))))
def grommetlaw16_large.f (k : Nat) (l0_0 : List (S45)) (a0_1 : Int) : Option (Bool) := if 0 ≤ (mn (l0_0.length : Int) 200) then (if (mn (l0_0.length : Int) 200) ≤ (l0_0.length : Int) then ((some (l0_0.take ((mn (l0_0.length : Int) 200) : Int).toNat : List (S45))).bind fun y102 => (grommetlaw16_large.l0 k 0 y102 (y102.length : Int) 0 l0_0 a0_1)) else (none)) else (none)
theorem qca0_ {P : Prop} (h_ : P := by repeat (first | (with_reducible first | exact HB.out | apply below_alloc | apply pw_below_drewN | apply below_drew1 | refine below_set ?_ GE101.out) | exact HB.out)) : P := h_
theorem qca1_ {P : Prop} (h_ : P := by (with_reducible repeat (first | refine blk_drewN ?_ _ | refine blk_drew ?_ | refine blk_alloc ?_ _)); exact BK101.out) : P := h_
theorem qca2_ {P : Prop} (h_ : P := by first | rfl | (simp [errW_none, errW_some] <;> rfl) | (simp only [← hji2]; first | rfl | (simp [errW_none, errW_some] <;> rfl)) | (simp [*, errW_none, errW_some] <;> rfl)) : P := h_
theorem qca3_ {P : Prop} (h_ : P := by repeat (first | (with_reducible first | exact HB.out | apply below_alloc | apply pw_below_drewN | apply below_drew1) | exact HB.out)) : P := h_
theorem qca4_ {P : Prop} (h_ : P := by first | (with_reducible assumption) | assumption) : P := h_
set_option maxHeartbeats 8000000 in
set_option maxRecDepth 100000 in
theorem grommetlaw16_large.calls (k : Nat) (A0_0 : Option Addr) (c0_0 : Nat) (l0_0 : List (S45)) (a0_1 : Int) (r : Bool) (w : World) (hr0_0 : Kd.C k45 w A0_0 l0_0.length l0_0) (hc0_0 : l0_0.length ≤ c0_0) (hG : Glob.G w) (h : grommetlaw16_large.f k l0_0 a0_1 = some r) :
  Calls Tryz.prog 22 #[.agg #[.slice A0_0 l0_0.length c0_0, .int .i64 a0_1]] w fun e w' => e = .returned (.bool r) ∧ Below w.heap.size w w' := by
 have hu24 := Tryz.underlying24
 have hu45 := Tryz.underlying45
 have HR0_0 := Aside0.mk hr0_0
 have HC0_0 := Aside0.mk hc0_0
 clear hr0_0 hc0_0
 have HB := Aside0.mk (Below.refl w.heap.size w)
 have H : (if 0 ≤ (mn (l0_0.length : Int) 200) then (if (mn (l0_0.length : Int) 200) ≤ (l0_0.length : Int) then ((some (l0_0.take ((mn (l0_0.length : Int) 200) : Int).toNat : List (S45))).bind fun y102 => (grommetlaw16_large.l0 k 0 y102 (y102.length : Int) 0 l0_0 a0_1)) else (none)) else (none)) = some r := h
 clear h
 obtain ⟨ji2, hji2⟩ : ∃ j_ : Int, (mn (l0_0.length : Int) 200) = j_ := ⟨_, rfl⟩
 replace H : (if 0 ≤ (ji2) then (if (ji2) ≤ (l0_0.length : Int) then ((some (l0_0.take ((ji2) : Int).toNat : List (S45))).bind fun y102 => (grommetlaw16_large.l0 k 0 y102 (y102.length : Int) 0 l0_0 a0_1)) else (none)) else (none)) = some r := by first | (rw [hji2] at H; exact H) | (simp only [hji2] at H ⊢; exact H)
 (try (have hji2h : ji2 ≤ 200 := by (rw [← hji2]; unfold mn; (repeat' split) <;> omega)))
 (try (have hji2g : ji2 ≤ 64 := by omega))
 (try (have hji2l : 0 ≤ ji2 := by (rw [← hji2]; unfold mn; (repeat' split) <;> omega)))
 (try (have hji2m : 0 ≤ ji2 := by omega))
 have hji2_ : (if 200 < (l0_0.length : Int) then 200 else (l0_0.length : Int)) = ji2 := hji2
 by_cases c3 : 0 ≤ (ji2)
 rotate_left
 ·
  rw [if_neg c3] at H
  exact absurd H (by simp)
 rw [if_pos c3] at H
 have c3b0 := eq_true c3
 have c3b1 : decide (0 ≤ (ji2)) = true := decide_eq_true c3
 clear c3
 by_cases c4 : (ji2) ≤ (l0_0.length : Int)
 rotate_left
 ·
  rw [if_neg c4] at H
  exact absurd H (by simp)
 rw [if_pos c4] at H
 have c4b0 := eq_true c4
 have c4b1 : decide ((ji2) ≤ (l0_0.length : Int)) = true := decide_eq_true c4
 clear c4
 obtain ⟨y102, hy102⟩ : ∃ y_ : List (S45), y_ = (l0_0.take ((ji2) : Int).toNat) := ⟨_, rfl⟩
 replace H : (grommetlaw16_large.l0 k 0 y102 (y102.length : Int) 0 l0_0 a0_1) = some r := by first | (rw [hy102]; with_reducible exact H) | (have H2_ := (Option.bind_some _ _).symm.trans H; rw [hy102]; with_reducible exact H2_) | (have H2_ := (Option.bind_some _ _).symm.trans H; with_reducible exact H2_) | with_reducible exact H | (rw [hy102]; exact H) | exact H
 have Ny102 := Aside0.mk hy102
 clear hy102
 have H' := Aside0.mk H
 clear H
 go_enter Tryz.func22, Tryz.ntmps22
 go_wp2_with (first | ((with_reducible refine gate_dst (N := 1) rfl ?_); (try (refine gate_guard (by rfl) ?_; dsimp only)); refine box_event ?hg (N := 1) ?hd (cs := #[.slice A0_0 l0_0.length c0_0, .int .i64 a0_1]) (t := 24) ?hr ?_; (case hd => rfl); (case hg => rfl); (case hr => first | (go_simp; done) | (go_simp; rfl)); intro gb101 hg w5 hbox hb; have n0_ := Aside0.mk (below_step (qca3_) hb); have n1_ := Aside0.mk (hbox); have n2_ := Aside0.mk ((by rw [hg]; exact (below_size (qca3_)) : w.heap.size ≤ gb101)); have n3_ := Aside0.mk ((by rw [hg]; exact (below_size (qca3_)) : w.heap.size ≤ gb101)); clear HB; have HB := n0_; have BK101 := n1_; have GW101 := n2_; have GE101 := n3_; clear n0_ n1_ n2_ n3_; clear hb hbox hg; have hcz6_0 : w5.cell? ⟨gb101, 0, none⟩ = some (.slice A0_0 l0_0.length c0_0) := (blk_cell BK101.out 0).trans rfl; have hcz6_1 : w5.cell? ⟨gb101, 1, none⟩ = some (.int .i64 a0_1) := (blk_cell BK101.out 1).trans rfl; have hfz6_0 := blk_frozen BK101.out 0; have hfz6_1 := blk_frozen BK101.out 1; have q7 : ((ji2) : Int) ≤ ((l0_0.length : Int) : Int) := of_decide_eq_true (qca4_); obtain ⟨i07, hi07, _, hsz7, _⟩ := info_parts info45; have hroom7 : l0_0.length ≤ c0_0 := HC0_0.out; have hC7 : Kd.C k45 _ A0_0 l0_0.length l0_0 := HR0_0.out; have hcut7 := cut_to (P := Tryz.prog) 22 45 .i64 Tryz.underlying22 hi07 A0_0 l0_0.length c0_0 (ji2) (of_decide_eq_true (qca4_)) q7 hroom7; have hr7 := Kd.C_take (m := ((ji2) : Int).toNat) hC7 (by omega); have hy7 : y102.length = ((ji2) : Int).toNat := (by rw [Ny102.out, List.length_take]; omega); rw [← Ny102.out] at hr7; rw [← hy7] at hcut7; have HR105 := Aside0.mk hr7; have HC105 := Aside0.mk (show y102.length ≤ c0_0 from by omega); clear hr7 hC7 hroom7 hi07 hsz7; have KY7 := Aside0.mk hy7; clear hy7; replace q7 := eq_true q7))
 go_loopg [3, 14] k (fun kq v3 v14 w' => ∃ (x3_1 : Int) (x14_1 : Int), v3 = .int .i64 x3_1 ∧ v14 = .int .i64 x14_1 ∧ Aside0 (grommetlaw16_large.l0 kq x3_1 y102 (y102.length : Int) x14_1 l0_0 a0_1 = some r) ∧ Aside0 (kq ≤ k) ∧ Aside0 (w'.heap[gb101]? = some (.cells #[(.slice A0_0 l0_0.length c0_0), .int .i64 a0_1] 24 (0, 0))) ∧ Aside0 (Below w.heap.size w w'))
 case atStart => exact ⟨(0), (0), (by first | rfl | (simp; done) | (simp [*]; done)), (by first | rfl | (simp; done) | (simp [*]; done)), H', ⟨Nat.le_refl _⟩, ⟨qca1_⟩, ⟨qca0_⟩⟩
 case round =>
  clear H'
  try clear c2
  try clear p2
  try clear c3
  try clear c3b0
  try clear c3b1
  try clear c4
  try clear c4b0
  try clear c4b1
  try clear q7
  try clear hcz6_0
  try clear hcz6_1
  try clear hfz6_0
  try clear hfz6_1
  try clear q7
  obtain ⟨x3_1, x14_1, rfl, rfl, HA, HK1, BK101, HB⟩ := hrel
  cases gk with
  | zero => exact absurd HA.out (by simp [grommetlaw16_large.l0])
  | succ k1 =>
   have H := HA.out
   clear HA
   simp only [grommetlaw16_large.l0] at H
   by_cases c8 : x14_1 < (y102.length : Int)
   rotate_left
   ·
    rw [if_neg c8] at H
    have c8b0 : decide (x14_1 < (y102.length : Int)) = false := decide_eq_false c8
    clear c8
    by_cases c16 : (l0_0.length : Int) > 200
    rotate_left
    ·
     rw [if_neg c16] at H
     have c16b0 : decide (200 < (l0_0.length : Int)) = false := decide_eq_false c16
     have c16b1 : decide (200 < l0_0.length) = false := decide_eq_false (by omega)
     clear c16
     obtain rfl := Option.some.inj H
     have hcz20_0 : wr.cell? ⟨gb101, 0, none⟩ = some (.slice A0_0 l0_0.length c0_0) := (blk_cell BK101.out 0).trans rfl
     have hcz20_1 : wr.cell? ⟨gb101, 1, none⟩ = some (.int .i64 a0_1) := (blk_cell BK101.out 1).trans rfl
     have hfz20_0 := blk_frozen BK101.out 0
     have hfz20_1 := blk_frozen BK101.out 1
     go_wp2
     go_ret
     exact ⟨qca2_, qca0_⟩
    rw [if_pos c16] at H
    have c16b0 : decide (200 < (l0_0.length : Int)) = true := decide_eq_true c16
    have c16b1 : decide (200 < l0_0.length) = true := decide_eq_true (by omega)
    clear c16
    by_cases c17 : (l0_0.length : Int) ≤ 4096
    ·
     rw [if_pos c17] at H
     have c17b0 : decide ((l0_0.length : Int) ≤ 4096) = true := decide_eq_true c17
     have c17b1 : decide (l0_0.length ≤ 4096) = true := decide_eq_true (by omega)
     clear c17
     obtain rfl := Option.some.inj H
     have hcz18_0 : wr.cell? ⟨gb101, 0, none⟩ = some (.slice A0_0 l0_0.length c0_0) := (blk_cell BK101.out 0).trans rfl
     have hcz18_1 : wr.cell? ⟨gb101, 1, none⟩ = some (.int .i64 a0_1) := (blk_cell BK101.out 1).trans rfl
     have hfz18_0 := blk_frozen BK101.out 0
     have hfz18_1 := blk_frozen BK101.out 1
     go_wp2
     go_ret
     exact ⟨qca2_, qca0_⟩
    rw [if_neg c17] at H
    have c17b0 : decide ((l0_0.length : Int) ≤ 4096) = false := decide_eq_false c17
    have c17b1 : decide (l0_0.length ≤ 4096) = false := decide_eq_false (by omega)
    clear c17
    obtain rfl := Option.some.inj H
    have hcz19_0 : wr.cell? ⟨gb101, 0, none⟩ = some (.slice A0_0 l0_0.length c0_0) := (blk_cell BK101.out 0).trans rfl
    have hcz19_1 : wr.cell? ⟨gb101, 1, none⟩ = some (.int .i64 a0_1) := (blk_cell BK101.out 1).trans rfl
    have hfz19_0 := blk_frozen BK101.out 0
    have hfz19_1 := blk_frozen BK101.out 1
    go_wp2
    go_ret
    exact ⟨qca2_, qca0_⟩
   rw [if_pos c8] at H
   have c8b0 : decide (x14_1 < (y102.length : Int)) = true := decide_eq_true c8
   clear c8
   by_cases c9 : 0 ≤ x14_1
   rotate_left
   ·
    rw [if_neg c9] at H
    exact absurd H (by simp)
   rw [if_pos c9] at H
   have c9b0 : decide (0 ≤ x14_1) = true := decide_eq_true c9
   clear c9
   by_cases c10 : x14_1 < (y102.length : Int)
   rotate_left
   · exact absurd (of_decide_eq_true c8b0) c10
   rw [if_pos c10] at H
   have c10b0 : decide (x14_1 < (y102.length : Int)) = true := decide_eq_true c10
   clear c10
   obtain ⟨ji11, hji11⟩ : ∃ j_ : Int, (mn (((rd_T45 y102 x14_1).f2).length : Int) 2000) = j_ := ⟨_, rfl⟩
   replace H : (grommetlaw16_large.l0 k1 (wrap64 (x3_1 + ((ji11) + (mn (((rd_T45 y102 x14_1).f1).size : Int) 2000)))) y102 (y102.length : Int) (wrap64 (x14_1 + 1)) l0_0 a0_1) = some r := by first | (rw [hji11] at H; exact H) | (simp only [hji11] at H ⊢; exact H)
   have hji11_ : (if 2000 < (((rd_T45 y102 x14_1).f2).length : Int) then 2000 else (((rd_T45 y102 x14_1).f2).length : Int)) = ji11 := hji11
   obtain ⟨ji12, hji12⟩ : ∃ j_ : Int, (mn (((rd_T45 y102 x14_1).f1).size : Int) 2000) = j_ := ⟨_, rfl⟩
   replace H : (grommetlaw16_large.l0 k1 (wrap64 (x3_1 + ((ji11) + (ji12)))) y102 (y102.length : Int) (wrap64 (x14_1 + 1)) l0_0 a0_1) = some r := by first | (rw [hji12] at H; exact H) | (simp only [hji12] at H ⊢; exact H)
   have hji12_ : (if 2000 < (((rd_T45 y102 x14_1).f1).size : Int) then 2000 else (((rd_T45 y102 x14_1).f1).size : Int)) = ji12 := hji12
   have H' := Aside0.mk H
   clear H
   have p106 : 0 ≤ (x14_1 : Int) := of_decide_eq_true (qca4_)
   have q106 : x14_1 < (y102.length : Int) := of_decide_eq_true (qca4_)
   obtain ⟨ad106, A106_2, c106_2, e106, hx106_0, hx106_1, hx106_2, hl106_2, hi106_2⟩ := at_T45 HR105.out x14_1 p106 q106
   have KX106_2 := Aside0.mk hx106_2
   cases e106
   replace hx106_0 := (HB.out.cell (World.block_lt_of_cell? w _ hx106_0)).trans hx106_0
   replace hx106_1 := (HB.out.cell (World.block_lt_of_cell? w _ hx106_1)).trans hx106_1
   replace hx106_2 := (HB.out.cell (World.block_lt_of_cell? w _ hx106_2)).trans hx106_2
   have HR106_2 := Aside0.mk hi106_2
   have HC106_2 := Aside0.mk hl106_2
   clear hi106_2 hl106_2
   replace p106 := eq_true p106
   replace q106 := eq_true q106
   go_wp2_with (first | ((with_reducible refine gate_dst (N := 5) rfl ?_); (try (refine gate_guard (by rfl) ?_; dsimp only)); refine box_event ?hg (N := 5) ?hd (cs := #[.int .i64 0, .string (⟨#[]⟩ : ByteArray), .slice none 0 0]) (t := 45) ?hr ?_; (case hd => rfl); (case hg => rfl); (case hr => first | (go_simp; done) | (go_simp; rfl)); intro gb107 hg w13 hbox hb; have n0_ := Aside0.mk (blk_below (g := gb101) (o := .cells #[.slice (some ad106) l0_0.length c0_0, .int .i64 a0_1] 24 (0, 0)) (qca1_) hb); have n1_ := Aside0.mk (below_step (qca0_) hb); have n2_ := Aside0.mk (hbox); have n3_ := Aside0.mk ((by rw [hg]; exact (below_size (qca0_)) : w.heap.size ≤ gb107)); have n4_ := Aside0.mk ((by rw [hg]; exact (below_size (qca0_)) : w.heap.size ≤ gb107)); have n5_ := Aside0.mk ((by rw [hg]; exact Nat.ne_of_lt (blk_lt (g := gb101) (o := .cells #[.slice (some ad106) l0_0.length c0_0, .int .i64 a0_1] 24 (0, 0)) (qca1_)) : gb101 ≠ gb107)); have n6_ := Aside0.mk ((by rw [hg]; exact Nat.ne_of_gt (blk_lt (g := gb101) (o := .cells #[.slice (some ad106) l0_0.length c0_0, .int .i64 a0_1] 24 (0, 0)) (qca1_)) : gb107 ≠ gb101)); clear BK101; clear HB; have BK101 := n0_; have HB := n1_; have BK107 := n2_; have GW107 := n3_; have GE107 := n4_; have NB101_107 := n5_; have NB107_101 := n6_; clear n0_ n1_ n2_ n3_ n4_ n5_ n6_; clear hb hbox hg; have hnb14 := NB107_101.out; have hnc14 := NB101_107.out; have hcz15_0 : w13.cell? ⟨gb107, 0, none⟩ = some (.int .i64 0) := (blk_cell BK107.out 0).trans rfl; have hcz15_1 : w13.cell? ⟨gb107, 1, none⟩ = some (.string (⟨#[]⟩ : ByteArray)) := (blk_cell BK107.out 1).trans rfl; have hcz15_2 : w13.cell? ⟨gb107, 2, none⟩ = some (.slice none 0 0) := (blk_cell BK107.out 2).trans rfl; have hfz15_0 := blk_frozen BK107.out 0; have hfz15_1 := blk_frozen BK107.out 1; have hfz15_2 := blk_frozen BK107.out 2))
   go_roundg k1
   case measure => have := HK1.out; omega
   case rel => exact ⟨(wrap64 (x3_1 + ((ji11) + (ji12)))), (wrap64 (x14_1 + 1)), (by first | rfl | (simp; done) | (simp only [← hji11, ← hji12] <;> (first | rfl | simp)) | (simp [*]; done)), (by first | rfl | (simp; done) | (simp [*]; done)), H', ⟨by have := HK1.out; omega⟩, ⟨by (with_reducible repeat (first | refine blk_drewN ?_ _ | refine blk_drew ?_ | refine blk_alloc ?_ _)); refine blk_far ?_ NB101_107.out _; (with_reducible repeat (first | refine blk_drewN ?_ _ | refine blk_drew ?_ | refine blk_alloc ?_ _)); refine blk_far ?_ NB101_107.out _; (with_reducible repeat (first | refine blk_drewN ?_ _ | refine blk_drew ?_ | refine blk_alloc ?_ _)); refine blk_far ?_ NB101_107.out _; (with_reducible repeat (first | refine blk_drewN ?_ _ | refine blk_drew ?_ | refine blk_alloc ?_ _)); exact BK101.out⟩, ⟨by repeat (first | (with_reducible first | exact HB.out | apply below_alloc | apply pw_below_drewN | apply below_drew1 | refine below_set ?_ GE101.out | refine below_set ?_ GE107.out) | exact HB.out)⟩⟩
def grommetlaw16_long.l0 : Nat → List (S58) → Int → List (S58) → Int → Int → Option (Bool)
  | 0, _, _, _, _, _ => none
  | k + 1, x0, x3, x10, x11, x12 => if x12 < x11 then (if 0 ≤ x12 then (if x12 < (x10.length : Int) then (grommetlaw16_long.l0 k x0 (wrap64 (x3 + (((rd_T58 x10 x12).f0).size : Int))) x10 x11 (wrap64 (x12 + 1))) else (none)) else (none)) else (if (x0.length : Int) > 100 then (some true) else (some (decide (x3 > 20000))))
def grommetlaw16_long.f (k : Nat) (l0 : List (S58)) : Option (Bool) := if 0 ≤ (mn (l0.length : Int) 100) then (if (mn (l0.length : Int) 100) ≤ (l0.length : Int) then ((some (l0.take ((mn (l0.length : Int) 100) : Int).toNat : List (S58))).bind fun y101 => (grommetlaw16_long.l0 k l0 0 y101 (y101.length : Int) 0)) else (none)) else (none)
theorem qda0_ {P : Prop} (h_ : P := by repeat (first | (with_reducible first | exact HB.out | apply below_alloc | apply pw_below_drewN | apply below_drew1) | exact HB.out)) : P := h_
theorem qda1_ {P : Prop} (h_ : P := by first | rfl | (simp [errW_none, errW_some] <;> rfl) | (simp only [← hji2]; first | rfl | (simp [errW_none, errW_some] <;> rfl)) | (simp [*, errW_none, errW_some] <;> rfl)) : P := h_
theorem qda2_ {P : Prop} (h_ : P := by first | (with_reducible assumption) | assumption) : P := h_
theorem qda3_ {P : Prop} (h_ : P := by first | rfl | (simp; done) | (simp [*]; done)) : P := h_
set_option maxHeartbeats 8000000 in
set_option maxRecDepth 100000 in
theorem grommetlaw16_long.calls (k : Nat) (A0 : Option Addr) (c0 : Nat) (l0 : List (S58)) (r : Bool) (w : World) (hr0 : Kd.C k58 w A0 l0.length l0) (hc0 : l0.length ≤ c0) (hG : Glob.G w) (h : grommetlaw16_long.f k l0 = some r) :
  Calls Tryz.prog 23 #[.slice A0 l0.length c0] w fun e w' => e = .returned (.bool r) ∧ Below w.heap.size w w' := by
 have hu58 := Tryz.underlying58
 have HR0 := Aside0.mk hr0
 have HC0 := Aside0.mk hc0
 clear hr0 hc0
 have HB := Aside0.mk (Below.refl w.heap.size w)
 have H : (if 0 ≤ (mn (l0.length : Int) 100) then (if (mn (l0.length : Int) 100) ≤ (l0.length : Int) then ((some (l0.take ((mn (l0.length : Int) 100) : Int).toNat : List (S58))).bind fun y101 => (grommetlaw16_long.l0 k l0 0 y101 (y101.length : Int) 0)) else (none)) else (none)) = some r := h
 clear h
 obtain ⟨ji2, hji2⟩ : ∃ j_ : Int, (mn (l0.length : Int) 100) = j_ := ⟨_, rfl⟩
 replace H : (if 0 ≤ (ji2) then (if (ji2) ≤ (l0.length : Int) then ((some (l0.take ((ji2) : Int).toNat : List (S58))).bind fun y101 => (grommetlaw16_long.l0 k l0 0 y101 (y101.length : Int) 0)) else (none)) else (none)) = some r := by first | (rw [hji2] at H; exact H) | (simp only [hji2] at H ⊢; exact H)
 (try (have hji2h : ji2 ≤ 100 := by (rw [← hji2]; unfold mn; (repeat' split) <;> omega)))
 (try (have hji2g : ji2 ≤ 64 := by omega))
 (try (have hji2l : 0 ≤ ji2 := by (rw [← hji2]; unfold mn; (repeat' split) <;> omega)))
 (try (have hji2m : 0 ≤ ji2 := by omega))
 have hji2_ : (if 100 < (l0.length : Int) then 100 else (l0.length : Int)) = ji2 := hji2
 by_cases c3 : 0 ≤ (ji2)
 rotate_left
 ·
  rw [if_neg c3] at H
  exact absurd H (by simp)
 rw [if_pos c3] at H
 have c3b0 := eq_true c3
 have c3b1 : decide (0 ≤ (ji2)) = true := decide_eq_true c3
 clear c3
 by_cases c4 : (ji2) ≤ (l0.length : Int)
 rotate_left
 ·
  rw [if_neg c4] at H
  exact absurd H (by simp)
 rw [if_pos c4] at H
 have c4b0 := eq_true c4
 have c4b1 : decide ((ji2) ≤ (l0.length : Int)) = true := decide_eq_true c4
 clear c4
 obtain ⟨y101, hy101⟩ : ∃ y_ : List (S58), y_ = (l0.take ((ji2) : Int).toNat) := ⟨_, rfl⟩
 replace H : (grommetlaw16_long.l0 k l0 0 y101 (y101.length : Int) 0) = some r := by first | (rw [hy101]; with_reducible exact H) | (have H2_ := (Option.bind_some _ _).symm.trans H; rw [hy101]; with_reducible exact H2_) | (have H2_ := (Option.bind_some _ _).symm.trans H; with_reducible exact H2_) | with_reducible exact H | (rw [hy101]; exact H) | exact H
 have Ny101 := Aside0.mk hy101
 clear hy101
 have H' := Aside0.mk H
 clear H
 have q5 : ((ji2) : Int) ≤ ((l0.length : Int) : Int) := of_decide_eq_true (qda2_)
 obtain ⟨i05, hi05, _, hsz5, _⟩ := info_parts info58
 have hroom5 : l0.length ≤ c0 := HC0.out
 have hC5 : Kd.C k58 _ A0 l0.length l0 := HR0.out
 have hcut5 := cut_to (P := Tryz.prog) 47 58 .i64 Tryz.underlying47 hi05 A0 l0.length c0 (ji2) (of_decide_eq_true (qda2_)) q5 hroom5
 have hr5 := Kd.C_take (m := ((ji2) : Int).toNat) hC5 (by omega)
 have hy5 : y101.length = ((ji2) : Int).toNat := (by rw [Ny101.out, List.length_take]; omega)
 rw [← Ny101.out] at hr5
 rw [← hy5] at hcut5
 have HR104 := Aside0.mk hr5
 have HC104 := Aside0.mk (show y101.length ≤ c0 from by omega)
 clear hr5 hC5 hroom5 hi05 hsz5
 have KY5 := Aside0.mk hy5
 clear hy5
 replace q5 := eq_true q5
 go_enter Tryz.func23, Tryz.ntmps23
 go_wp2
 go_loopg [3, 12] k (fun kq v3 v12 w' => ∃ (x3_1 : Int) (x12_1 : Int), v3 = .int .i64 x3_1 ∧ v12 = .int .i64 x12_1 ∧ Aside0 (grommetlaw16_long.l0 kq l0 x3_1 y101 (y101.length : Int) x12_1 = some r) ∧ Aside0 (kq ≤ k) ∧ Aside0 (Below w.heap.size w w'))
 case atStart => exact ⟨(0), (0), (qda3_), (qda3_), H', ⟨Nat.le_refl _⟩, ⟨qda0_⟩⟩
 case round =>
  clear H'
  try clear c2
  try clear p2
  try clear c3
  try clear c3b0
  try clear c3b1
  try clear c4
  try clear c4b0
  try clear c4b1
  try clear q5
  try clear q5
  obtain ⟨x3_1, x12_1, rfl, rfl, HA, HK1, HB⟩ := hrel
  cases gk with
  | zero => exact absurd HA.out (by simp [grommetlaw16_long.l0])
  | succ k1 =>
   have H := HA.out
   clear HA
   simp only [grommetlaw16_long.l0] at H
   by_cases c6 : x12_1 < (y101.length : Int)
   rotate_left
   ·
    rw [if_neg c6] at H
    have c6b0 : decide (x12_1 < (y101.length : Int)) = false := decide_eq_false c6
    clear c6
    by_cases c11 : (l0.length : Int) > 100
    ·
     rw [if_pos c11] at H
     have c11b0 : decide (100 < (l0.length : Int)) = true := decide_eq_true c11
     have c11b1 : decide (100 < l0.length) = true := decide_eq_true (by omega)
     clear c11
     obtain rfl := Option.some.inj H
     go_wp2
     go_ret
     exact ⟨qda1_, qda0_⟩
    rw [if_neg c11] at H
    have c11b0 : decide (100 < (l0.length : Int)) = false := decide_eq_false c11
    have c11b1 : decide (100 < l0.length) = false := decide_eq_false (by omega)
    clear c11
    obtain rfl := Option.some.inj H
    go_wp2
    go_ret
    exact ⟨qda1_, qda0_⟩
   rw [if_pos c6] at H
   have c6b0 : decide (x12_1 < (y101.length : Int)) = true := decide_eq_true c6
   clear c6
   by_cases c7 : 0 ≤ x12_1
   rotate_left
   ·
    rw [if_neg c7] at H
    exact absurd H (by simp)
   rw [if_pos c7] at H
   have c7b0 : decide (0 ≤ x12_1) = true := decide_eq_true c7
   clear c7
   by_cases c8 : x12_1 < (y101.length : Int)
   rotate_left
   · exact absurd (of_decide_eq_true c6b0) c8
   rw [if_pos c8] at H
   have c8b0 : decide (x12_1 < (y101.length : Int)) = true := decide_eq_true c8
   clear c8
   have H' := Aside0.mk H
   clear H
   have p105 : 0 ≤ (x12_1 : Int) := of_decide_eq_true (qda2_)
   have q105 : x12_1 < (y101.length : Int) := of_decide_eq_true (qda2_)
   obtain ⟨ad105, e105, hx105_0, hx105_1, hx105_2⟩ := at_T58 HR104.out x12_1 p105 q105
   cases e105
   replace hx105_0 := (HB.out.cell (World.block_lt_of_cell? w _ hx105_0)).trans hx105_0
   replace hx105_1 := (HB.out.cell (World.block_lt_of_cell? w _ hx105_1)).trans hx105_1
   replace hx105_2 := (HB.out.cell (World.block_lt_of_cell? w _ hx105_2)).trans hx105_2
   replace p105 := eq_true p105
   replace q105 := eq_true q105
   go_wp2_with (first | ((with_reducible refine gate_dst (N := 5) rfl ?_); refine box_event ?hg (N := 5) ?hd (cs := #[.string (⟨#[]⟩ : ByteArray), .int .i64 0, .bool false]) (t := 58) ?hr ?_; (case hd => rfl); (case hg => rfl); (case hr => first | (go_simp; done) | (go_simp; rfl)); intro gb106 hg w9 hbox hb; have n0_ := Aside0.mk (below_step (qda0_) hb); have n1_ := Aside0.mk (hbox); have n2_ := Aside0.mk ((by rw [hg]; exact (below_size (qda0_)) : w.heap.size ≤ gb106)); have n3_ := Aside0.mk ((by rw [hg]; exact (below_size (qda0_)) : w.heap.size ≤ gb106)); clear HB; have HB := n0_; have BK106 := n1_; have GW106 := n2_; have GE106 := n3_; clear n0_ n1_ n2_ n3_; clear hb hbox hg; have hcz10_0 : w9.cell? ⟨gb106, 0, none⟩ = some (.string (⟨#[]⟩ : ByteArray)) := (blk_cell BK106.out 0).trans rfl; have hcz10_1 : w9.cell? ⟨gb106, 1, none⟩ = some (.int .i64 0) := (blk_cell BK106.out 1).trans rfl; have hcz10_2 : w9.cell? ⟨gb106, 2, none⟩ = some (.bool false) := (blk_cell BK106.out 2).trans rfl; have hfz10_0 := blk_frozen BK106.out 0; have hfz10_1 := blk_frozen BK106.out 1; have hfz10_2 := blk_frozen BK106.out 2))
   go_roundg k1
   case measure => have := HK1.out; omega
   case rel => exact ⟨(wrap64 (x3_1 + (((rd_T58 y101 x12_1).f0).size : Int))), (wrap64 (x12_1 + 1)), (qda3_), (qda3_), H', ⟨by have := HK1.out; omega⟩, ⟨by repeat (first | (with_reducible first | exact HB.out | apply below_alloc | apply pw_below_drewN | apply below_drew1 | refine below_set ?_ GE106.out) | exact HB.out)⟩⟩
theorem eqA95 (d : Nat) (w : World) (x0 y0 : Int) (x1 y1 : Int) :
    (Op.equalIn (d + 2) 95 (.agg #[.int .i64 x0, .int .i64 x1]) (.agg #[.int .i64 y0, .int .i64 y1])).run Tryz.prog w = .ok (x0 == y0 && (x1 == y1)) w := by
  refine eqA_of Tryz.underlying95 (by kernel_rfl) ?_
  refine eqf_cons (by rfl) (by go_simp; rfl) (by go_simp; rfl) (by go_simp) ?_
  exact eqf_last (by rfl) (by go_simp; rfl) (by go_simp; rfl) (by go_simp)
end Go.Proofs.YtiooacmplmcphaaGreatDoor.PX
namespace Go.Proofs.YtiooacmplmcphaaGreatDoor.PX
open RowKit YtiooacmplmcphaaGreatDoorW.PrintWords YtiooacmplmcphaaGreatDoorW.PrintLast YtiooacmplmcphaaGreatDoorW.PrintMore YtiooacmplmcphaaGreatDoor
attribute [local go_sem] max2_int min2_int max_two min_two max_three min_three max_four min_four   -- for this text's walks alone
set_option linter.unusedVariables false
set_option linter.unusedSimpArgs false
attribute [local go_sem high] eqA95
def IsS138 (w0 W : World) (g : Nat) (f0 : Int) (f1 : ByteArray) (f2 : Int) (f3 : Int) : Prop := W.heap[g]? = some (.cells #[.int .i64 f0, .string f1, .int .i64 f2, .int .i64 f3] 138 (0, 0)) ∧ w0.heap.size ≤ g
theorem IsS138.grown {w0 W : World} {g : Nat} {f0 : Int} {f1 : ByteArray} {f2 : Int} {f3 : Int} {W1 : World} {row : Option Nat} (h : IsS138 w0 W g f0 f1 f2 f3) (hw : W.grownBy W1 row) (hne : some g ≠ row) : IsS138 w0 W1 g f0 f1 f2 f3 := by
  obtain ⟨hb, hg⟩ := h
  exact ⟨blk_grown hb hw hne, hg⟩
theorem IsS138.kept {w0 W : World} {g : Nat} {f0 : Int} {f1 : ByteArray} {f2 : Int} {f3 : Int} {W1 : World} {S : Nat → Prop} (h : IsS138 w0 W g f0 f1 f2 f3) (hk : Kept W W1 S) (hne : ¬ S g) : IsS138 w0 W1 g f0 f1 f2 f3 := by
  obtain ⟨hb, hg⟩ := h
  exact ⟨blk_kept hb hk hne, hg⟩
theorem IsS138.below {w0 W : World} {g : Nat} {f0 : Int} {f1 : ByteArray} {f2 : Int} {f3 : Int} {W1 : World} (h : IsS138 w0 W g f0 f1 f2 f3) (hw : Below W.heap.size W W1) : IsS138 w0 W1 g f0 f1 f2 f3 := h.grown (grown_of_below hw none) (by simp)
theorem IsS138.alloc {w0 W : World} {g : Nat} {f0 : Int} {f1 : ByteArray} {f2 : Int} {f3 : Int} (h : IsS138 w0 W g f0 f1 f2 f3) (o : Obj) : IsS138 w0 (W.alloc o) g f0 f1 f2 f3 := h.below (below_alloc (Below.refl _ _) o)
theorem IsS138.drewN {w0 W : World} {g : Nat} {f0 : Int} {f1 : ByteArray} {f2 : Int} {f3 : Int} (h : IsS138 w0 W g f0 f1 f2 f3) (m : Nat) : IsS138 w0 (W.drewN m) g f0 f1 f2 f3 := h
theorem IsS138.drew {w0 W : World} {g : Nat} {f0 : Int} {f1 : ByteArray} {f2 : Int} {f3 : Int} (h : IsS138 w0 W g f0 f1 f2 f3) : IsS138 w0 W.drew g f0 f1 f2 f3 := h
theorem IsS138.at_ {w0 W : World} {g : Nat} {f0 : Int} {f1 : ByteArray} {f2 : Int} {f3 : Int} {w' : World} {m : Nat} (hq : W.drewN m = w') (h : IsS138 w0 W g f0 f1 f2 f3) : IsS138 w0 w' g f0 f1 f2 f3 := by subst hq; exact IsS138.drewN h m
theorem IsS138.apart {w0 W : World} {g : Nat} {f0 : Int} {f1 : ByteArray} {f2 : Int} {f3 : Int} {α : Type} {d : Kd α} {e : Nat} {base : Nat} {ok : Nat → Prop} {v : Value} {xs : List α} (h : IsS138 w0 W g f0 f1 f2 f3) (ho : d.R e W base ok v xs) (ht : ∀ q, q ∈ e :: d.E → q ≠ 138) : d.R e W base (fun k => ok k ∧ k ≠ g) v xs := by
  obtain ⟨hb, hg⟩ := h
  exact Kd.R_types ho hb ht
theorem IsS138.own_ne {w0 W : World} {g : Nat} {f0 : Int} {f1 : ByteArray} {f2 : Int} {f3 : Int} {α : Type} {d : Kd α} {e : Nat} {base : Nat} {ok : Nat → Prop} {v : Value} {xs : List α} (h : IsS138 w0 W g f0 f1 f2 f3) (ho : d.R e W base ok v xs) (ht : e ≠ 138) : some g ≠ v.ownBlock := by
  obtain ⟨hb, hg⟩ := h
  exact Kd.R_ne ho hb ht
theorem IsS138.lt {w0 W : World} {g : Nat} {f0 : Int} {f1 : ByteArray} {f2 : Int} {f3 : Int} (h : IsS138 w0 W g f0 f1 f2 f3) : g < W.heap.size := by
  obtain ⟨hb, hg⟩ := h
  exact blk_lt hb
theorem IsS138.ge {w0 W : World} {g : Nat} {f0 : Int} {f1 : ByteArray} {f2 : Int} {f3 : Int} (h : IsS138 w0 W g f0 f1 f2 f3) : w0.heap.size ≤ g := by
  obtain ⟨hb, hg⟩ := h
  exact hg
theorem IsS138.far {w0 W : World} {g : Nat} {f0 : Int} {f1 : ByteArray} {f2 : Int} {f3 : Int} {p : Addr} (h : IsS138 w0 W g f0 f1 f2 f3) (hne : g ≠ p.block) (u : Value) : IsS138 w0 (W.setCell p u) g f0 f1 f2 f3 := by
  obtain ⟨hb, hg⟩ := h
  exact ⟨blk_far hb hne u, hg⟩
theorem cellS138_0 {W : World} {g : Nat} {f0 : Int} {f1 : ByteArray} {f2 : Int} {f3 : Int} (h : W.heap[g]? = some (.cells #[.int .i64 f0, .string f1, .int .i64 f2, .int .i64 f3] 138 (0, 0))) : W.cell? ⟨g, 0, none⟩ = some (.int .i64 f0) := (blk_cell h 0).trans rfl
theorem IsS138.set_0 {w0 W : World} {g : Nat} {f0 : Int} {f1 : ByteArray} {f2 : Int} {f3 : Int} (h : IsS138 w0 W g f0 f1 f2 f3) (x : Int) : IsS138 w0 (W.setCell ⟨g, 0, none⟩ (.int .i64 x)) g x f1 f2 f3 := by
  obtain ⟨hb, hg⟩ := h
  exact ⟨by simpa using blk_set hb 0 (.int .i64 x), hg⟩
theorem cellS138_1 {W : World} {g : Nat} {f0 : Int} {f1 : ByteArray} {f2 : Int} {f3 : Int} (h : W.heap[g]? = some (.cells #[.int .i64 f0, .string f1, .int .i64 f2, .int .i64 f3] 138 (0, 0))) : W.cell? ⟨g, 1, none⟩ = some (.string f1) := (blk_cell h 1).trans rfl
theorem IsS138.set_1 {w0 W : World} {g : Nat} {f0 : Int} {f1 : ByteArray} {f2 : Int} {f3 : Int} (h : IsS138 w0 W g f0 f1 f2 f3) (x : ByteArray) : IsS138 w0 (W.setCell ⟨g, 1, none⟩ (.string x)) g f0 x f2 f3 := by
  obtain ⟨hb, hg⟩ := h
  exact ⟨by simpa using blk_set hb 1 (.string x), hg⟩
theorem cellS138_2 {W : World} {g : Nat} {f0 : Int} {f1 : ByteArray} {f2 : Int} {f3 : Int} (h : W.heap[g]? = some (.cells #[.int .i64 f0, .string f1, .int .i64 f2, .int .i64 f3] 138 (0, 0))) : W.cell? ⟨g, 2, none⟩ = some (.int .i64 f2) := (blk_cell h 2).trans rfl
theorem IsS138.set_2 {w0 W : World} {g : Nat} {f0 : Int} {f1 : ByteArray} {f2 : Int} {f3 : Int} (h : IsS138 w0 W g f0 f1 f2 f3) (x : Int) : IsS138 w0 (W.setCell ⟨g, 2, none⟩ (.int .i64 x)) g f0 f1 x f3 := by
  obtain ⟨hb, hg⟩ := h
  exact ⟨by simpa using blk_set hb 2 (.int .i64 x), hg⟩
theorem cellS138_3 {W : World} {g : Nat} {f0 : Int} {f1 : ByteArray} {f2 : Int} {f3 : Int} (h : W.heap[g]? = some (.cells #[.int .i64 f0, .string f1, .int .i64 f2, .int .i64 f3] 138 (0, 0))) : W.cell? ⟨g, 3, none⟩ = some (.int .i64 f3) := (blk_cell h 3).trans rfl
theorem IsS138.set_3 {w0 W : World} {g : Nat} {f0 : Int} {f1 : ByteArray} {f2 : Int} {f3 : Int} (h : IsS138 w0 W g f0 f1 f2 f3) (x : Int) : IsS138 w0 (W.setCell ⟨g, 3, none⟩ (.int .i64 x)) g f0 f1 f2 x := by
  obtain ⟨hb, hg⟩ := h
  exact ⟨by simpa using blk_set hb 3 (.int .i64 x), hg⟩
theorem IsS138.new (w0 W : World) (f0 : Int) (f1 : ByteArray) (f2 : Int) (f3 : Int) (hB : Below w0.heap.size w0 W) : IsS138 w0 (W.alloc (.cells #[.int .i64 f0, .string f1, .int .i64 f2, .int .i64 f3] 138)) W.heap.size f0 f1 f2 f3 := ⟨by simpa using heap_alloc_new W _, hB.size⟩
def path_reader_fail.f (s0_0 : Int) (s0_1 : ByteArray) (s0_2 : Int) (s0_3 : Int) (a1_0 : Int) (a1_1 : Int) : Option (Int × ByteArray × Int × Int) := if (s0_2 == 0 && (s0_3 == 0)) = true then (some (s0_0, s0_1, a1_0, a1_1)) else (some (s0_0, s0_1, s0_2, s0_3))
theorem qga0_ {P : Prop} (h_ : P := by repeat (first | (with_reducible first | exact HK.out | apply KeepBut.set_ | apply keep_drewN | apply keep_drew | apply keep_alloc) | exact HK.out)) : P := h_
theorem qga1_ {P : Prop} (h_ : P := by repeat (first | (with_reducible first | exact HI0.out | apply IsS138.alloc | apply IsS138.drewN | apply IsS138.drew | apply IsS138.set_0 | apply IsS138.set_1 | apply IsS138.set_2 | apply IsS138.set_3 | refine IsS138.far ?_ NB0_101.out _) | exact HI0.out)) : P := h_
theorem qga2_ {P : Prop} (h_ : P := by repeat (first | (with_reducible first | exact HI0.out | apply IsS138.alloc | apply IsS138.drewN | apply IsS138.drew | apply IsS138.set_0 | apply IsS138.set_1 | apply IsS138.set_2 | apply IsS138.set_3) | exact HI0.out)) : P := h_
theorem qga3_ {P : Prop} (h_ : P := by repeat (first | (with_reducible first | exact HB.out | apply below_alloc | apply pw_below_drewN | apply below_drew1 | refine below_set ?_ (IsS138.ge HI0.out) | refine below_set ?_ GE101.out) | exact HB.out)) : P := h_
theorem qga4_ {P : Prop} (h_ : P := by repeat (first | (with_reducible first | exact HK.out | apply KeepBut.set_ | apply keep_drewN | apply keep_drew | apply keep_alloc | refine keep_far ?_ GW101.out _) | exact HK.out)) : P := h_
theorem qga5_ {P : Prop} (h_ : P := by repeat (first | (with_reducible first | exact HB.out | apply below_alloc | apply pw_below_drewN | apply below_drew1 | refine below_set ?_ (IsS138.ge HI0.out)) | exact HB.out)) : P := h_
set_option maxHeartbeats 8000000 in
set_option maxRecDepth 100000 in
theorem path_reader_fail.calls (g : Nat) (s0_0 : Int) (s0_1 : ByteArray) (s0_2 : Int) (s0_3 : Int) (a1_0 : Int) (a1_1 : Int) (r1 : Int) (r2 : ByteArray) (r3 : Int) (r4 : Int) (w0 w : World) (hI : IsS138 w0 w g s0_0 s0_1 s0_2 s0_3) (hB : Below w0.heap.size w0 w) (hG : Glob.G w0) (h : path_reader_fail.f s0_0 s0_1 s0_2 s0_3 a1_0 a1_1 = some (r1, r2, r3, r4)) :
  Calls Tryz.prog 73 #[.pointer (some ⟨g, 0, none⟩), .agg #[.int .i64 a1_0, .int .i64 a1_1]] w fun e w' => e = .returned (.tuple #[]) ∧ IsS138 w0 w' g r1 r2 r3 r4 ∧ Below w0.heap.size w0 w' ∧ KeepBut w w' g none := by
 have hu95 := Tryz.underlying95
 have HI0 := Aside0.mk hI
 have HK := Aside0.mk (KeepBut.refl w g none)
 have HL := Aside0.mk hB.size
 clear hI
 have HW0 := Aside0.mk hB.size
 have HB := Aside0.mk hB
 clear hB
 have H : (if (s0_2 == 0 && (s0_3 == 0)) = true then (some (s0_0, s0_1, a1_0, a1_1)) else (some (s0_0, s0_1, s0_2, s0_3))) = some (r1, r2, r3, r4) := h
 clear h
 by_cases c3 : (s0_2 == 0 && (s0_3 == 0)) = true
 rotate_left
 ·
  rw [if_neg c3] at H
  have c3b0 : (s0_2 == 0 && (s0_3 == 0)) = false := by simpa using c3
  (try (have c3b1 : decide (s0_2 = 0 && (s0_3 == 0)) = false := by simpa using c3))
  (try (have c3b2 : (s0_2 == 0 && (s0_3 == 0)) = false := by simpa using c3))
  (try (have c3b3 : ¬ (s0_2 = 0 && (s0_3 == 0)) := by simpa using c3))
  clear c3
  simp only [Option.some.injEq, Prod.mk.injEq] at H
  obtain ⟨rfl, rfl, rfl, rfl⟩ := H
  go_enter Tryz.func73, Tryz.ntmps73
  go_wp2_with (first | ((with_reducible refine gate_dst (N := 3) rfl ?_); refine box_event ?hg (N := 3) ?hd (cs := #[.int .i64 a1_0, .int .i64 a1_1]) (t := 95) ?hr ?_; (case hd => rfl); (case hg => rfl); (case hr => first | (go_simp; done) | (go_simp; rfl)); intro gb101 hg w8 hbox hb; have n0_ := Aside0.mk (IsS138.below (qga2_) hb); have n1_ := Aside0.mk (KeepBut.trans (qga0_) (KeepBut.of_below hb g none) (.inl rfl)); have n2_ := Aside0.mk (below_step (qga5_) hb); have n3_ := Aside0.mk (hbox); have n4_ := Aside0.mk ((by rw [hg]; exact (keep_size (w := w) (g := g) (row := none) (qga0_)) : w.heap.size ≤ gb101)); have n5_ := Aside0.mk ((Nat.le_trans HW0.out (by rw [hg]; exact (keep_size (w := w) (g := g) (row := none) (qga0_)) : w.heap.size ≤ gb101) : w0.heap.size ≤ gb101)); have n6_ := Aside0.mk ((by rw [hg]; exact Nat.ne_of_lt (IsS138.lt (show IsS138 w0 _ g s0_0 s0_1 s0_2 s0_3 from by repeat (first | (with_reducible first | exact HI0.out | apply IsS138.alloc | apply IsS138.drewN | apply IsS138.drew | apply IsS138.set_0 | apply IsS138.set_1 | apply IsS138.set_2 | apply IsS138.set_3) | exact HI0.out))) : g ≠ gb101)); have n7_ := Aside0.mk ((by rw [hg]; exact Nat.ne_of_gt (IsS138.lt (show IsS138 w0 _ g s0_0 s0_1 s0_2 s0_3 from by repeat (first | (with_reducible first | exact HI0.out | apply IsS138.alloc | apply IsS138.drewN | apply IsS138.drew | apply IsS138.set_0 | apply IsS138.set_1 | apply IsS138.set_2 | apply IsS138.set_3) | exact HI0.out))) : gb101 ≠ g)); clear HI0; clear HK; clear HB; have HI0 := n0_; have HK := n1_; have HB := n2_; have BK101 := n3_; have GW101 := n4_; have GE101 := n5_; have NB0_101 := n6_; have NB101_0 := n7_; clear n0_ n1_ n2_ n3_ n4_ n5_ n6_ n7_; clear hb hbox hg; obtain ⟨HGz9, hgz9⟩ := HI0.out; have hcz9_0 := cellS138_0 HGz9; have hcz9_1 := cellS138_1 HGz9; have hcz9_2 := cellS138_2 HGz9; have hcz9_3 := cellS138_3 HGz9; have hfz9_0 := blk_frozen HGz9 0; have hfz9_1 := blk_frozen HGz9 1; have hfz9_2 := blk_frozen HGz9 2; have hfz9_3 := blk_frozen HGz9 3; clear HGz9 hgz9))
  first | go_end0 | ((try simp only [Exit.inBlock, Exit.then]); refine bodyPost_ret (results_none rfl _ _ _) rfl ?_)
  exact ⟨by first | rfl | (simp [errW_none, errW_some] <;> rfl) | (simp [*, errW_none, errW_some] <;> rfl), qga1_, qga3_, qga4_⟩
 rw [if_pos c3] at H
 have c3b0 : (s0_2 == 0 && (s0_3 == 0)) = true := c3
 (try (have c3b1 : decide (s0_2 = 0 && (s0_3 == 0)) = true := by simpa using c3))
 (try (have c3b2 : (s0_2 == 0 && (s0_3 == 0)) = true := by simpa using c3))
 clear c3
 simp only [Option.some.injEq, Prod.mk.injEq] at H
 obtain ⟨rfl, rfl, rfl, rfl⟩ := H
 go_enter Tryz.func73, Tryz.ntmps73
 go_wp2_with (first | ((with_reducible refine gate_dst (N := 3) rfl ?_); refine box_event ?hg (N := 3) ?hd (cs := #[.int .i64 a1_0, .int .i64 a1_1]) (t := 95) ?hr ?_; (case hd => rfl); (case hg => rfl); (case hr => first | (go_simp; done) | (go_simp; rfl)); intro gb101 hg w4 hbox hb; have n0_ := Aside0.mk (IsS138.below (qga2_) hb); have n1_ := Aside0.mk (KeepBut.trans (qga0_) (KeepBut.of_below hb g none) (.inl rfl)); have n2_ := Aside0.mk (below_step (qga5_) hb); have n3_ := Aside0.mk (hbox); have n4_ := Aside0.mk ((by rw [hg]; exact (keep_size (w := w) (g := g) (row := none) (qga0_)) : w.heap.size ≤ gb101)); have n5_ := Aside0.mk ((Nat.le_trans HW0.out (by rw [hg]; exact (keep_size (w := w) (g := g) (row := none) (qga0_)) : w.heap.size ≤ gb101) : w0.heap.size ≤ gb101)); have n6_ := Aside0.mk ((by rw [hg]; exact Nat.ne_of_lt (IsS138.lt (show IsS138 w0 _ g s0_0 s0_1 s0_2 s0_3 from by repeat (first | (with_reducible first | exact HI0.out | apply IsS138.alloc | apply IsS138.drewN | apply IsS138.drew | apply IsS138.set_0 | apply IsS138.set_1 | apply IsS138.set_2 | apply IsS138.set_3) | exact HI0.out))) : g ≠ gb101)); have n7_ := Aside0.mk ((by rw [hg]; exact Nat.ne_of_gt (IsS138.lt (show IsS138 w0 _ g s0_0 s0_1 s0_2 s0_3 from by repeat (first | (with_reducible first | exact HI0.out | apply IsS138.alloc | apply IsS138.drewN | apply IsS138.drew | apply IsS138.set_0 | apply IsS138.set_1 | apply IsS138.set_2 | apply IsS138.set_3) | exact HI0.out))) : gb101 ≠ g)); clear HI0; clear HK; clear HB; have HI0 := n0_; have HK := n1_; have HB := n2_; have BK101 := n3_; have GW101 := n4_; have GE101 := n5_; have NB0_101 := n6_; have NB101_0 := n7_; clear n0_ n1_ n2_ n3_ n4_ n5_ n6_ n7_; clear hb hbox hg; obtain ⟨HGz5, hgz5⟩ := HI0.out; have hcz5_0 := cellS138_0 HGz5; have hcz5_1 := cellS138_1 HGz5; have hcz5_2 := cellS138_2 HGz5; have hcz5_3 := cellS138_3 HGz5; have hfz5_0 := blk_frozen HGz5 0; have hfz5_1 := blk_frozen HGz5 1; have hfz5_2 := blk_frozen HGz5 2; have hfz5_3 := blk_frozen HGz5 3; clear HGz5 hgz5; have hnb6 := NB101_0.out; have hnc6 := NB0_101.out; have hcz7_0 : w4.cell? ⟨gb101, 0, none⟩ = some (.int .i64 a1_0) := (blk_cell BK101.out 0).trans rfl; have hcz7_1 : w4.cell? ⟨gb101, 1, none⟩ = some (.int .i64 a1_1) := (blk_cell BK101.out 1).trans rfl; have hfz7_0 := blk_frozen BK101.out 0; have hfz7_1 := blk_frozen BK101.out 1))
 first | go_end0 | ((try simp only [Exit.inBlock, Exit.then]); refine bodyPost_ret (results_none rfl _ _ _) rfl ?_)
 exact ⟨by first | rfl | (simp [errW_none, errW_some] <;> rfl) | (simp [*, errW_none, errW_some] <;> rfl), qga1_, qga3_, qga4_⟩
end Go.Proofs.YtiooacmplmcphaaGreatDoor.PX
namespace Go.Proofs.YtiooacmplmcphaaGreatDoor.Plug
open RowKit YtiooacmplmcphaaGreatDoor YtiooacmplmcphaaGreatDoor.PX YtiooacmplmcphaaGreatDoorW.PrintWords YtiooacmplmcphaaGreatDoorW.PrintLast YtiooacmplmcphaaGreatDoorW.PrintMore
def path_reader_wrong.f (s0_0 : Int) (s0_1 : ByteArray) (s0_2 : Int) (s0_3 : Int) (a1 : Int) : Option (Int × ByteArray × Int × Int) :=
  path_reader_fail.f s0_0 s0_1 s0_2 s0_3 (if (s0_1.size : Int) ≤ a1 then 4 else 3) (wrap64 (wrap64 (s0_0 - (s0_1.size : Int)) + a1))
set_option maxHeartbeats 1000000 in
set_option maxRecDepth 100000 in
theorem path_reader_wrong.calls (g : Nat) (s0_0 : Int) (s0_1 : ByteArray) (s0_2 : Int) (s0_3 : Int) (a1 : Int) (r1 : Int) (r2 : ByteArray) (r3 : Int) (r4 : Int) (w0 w : World) (hI : IsS138 w0 w g s0_0 s0_1 s0_2 s0_3) (hB : Below w0.heap.size w0 w) (hG : Glob.G w0) (h : path_reader_wrong.f s0_0 s0_1 s0_2 s0_3 a1 = some (r1, r2, r3, r4)) :
  Calls Tryz.prog 99 #[.pointer (some ⟨g, 0, none⟩), .int .i64 a1] w fun e w' => e = .returned (.tuple #[]) ∧ IsS138 w0 w' g r1 r2 r3 r4 ∧ Below w0.heap.size w0 w' ∧ KeepBut w w' g none := by
 have c0 := cellS138_0 hI.1
 have c1 := cellS138_1 hI.1
 have d0 := cellS138_0 (hI.alloc (.cells #[.int .i64 0, .int .i64 0] 95)).1
 have d1 := cellS138_1 (hI.alloc (.cells #[.int .i64 0, .int .i64 0] 95)).1
 unfold path_reader_wrong.f at h
 have hu := IsS138.lt hI
 by_cases c : (s0_1.size : Int) ≤ a1
 ·
  rw [if_pos c] at h
  generalize hx : wrap64 (wrap64 (s0_0 - (s0_1.size : Int)) + a1) = x at h
  have e1 := cellS138_1 (hI.alloc (.cells #[.int .i64 3, .int .i64 x] 95)).1
  have hI2 := Lib.hid (hI.alloc (.cells #[.int .i64 4, .int .i64 x] 95)).drew
  have bel : Below w.heap.size w (w.alloc (.cells #[.int .i64 4, .int .i64 x] 95)).drew := ((Below.refl _ _).alloc (Nat.le_refl _) _).drew
  have hB2 := Lib.hid (hB.trans (bel.mono hB.size))
  have hG2 := Lib.hid hG
  have HH := Lib.hid h
  have HB := Lib.hid bel
  clear h hu bel
  rw [← hx] at e1
  rw [← hx] at hI2 hB2 HH HB
  clear hx
  go_enter Tryz.func99, Tryz.ntmps99
  go_wp2
  go_region
  all_goals
   go_wp2_with (go_at_call 73; refine (path_reader_fail.calls g _ _ _ _ _ _ r1 r2 r3 r4 w0 _ hI2.out hB2.out hG2.out HH.out).mono ?_; rintro e w2 ⟨rfl, h2, b2, k2⟩)
   go_end0
   exact ⟨rfl, h2, b2, (KeepBut.of_below HB.out g none).trans k2 (.inl rfl)⟩
 rw [if_neg c] at h
 have c2 : a1 < (s0_1.size : Int) := by omega
 generalize hx : wrap64 (wrap64 (s0_0 - (s0_1.size : Int)) + a1) = x at h
 have e1 := cellS138_1 (hI.alloc (.cells #[.int .i64 3, .int .i64 x] 95)).1
 have hI2 := Lib.hid (hI.alloc (.cells #[.int .i64 3, .int .i64 x] 95)).drew
 have bel : Below w.heap.size w (w.alloc (.cells #[.int .i64 3, .int .i64 x] 95)).drew := ((Below.refl _ _).alloc (Nat.le_refl _) _).drew
 have hB2 := Lib.hid (hB.trans (bel.mono hB.size))
 have hG2 := Lib.hid hG
 have HH := Lib.hid h
 have HB := Lib.hid bel
 clear h hu bel
 rw [← hx] at e1
 rw [← hx] at hI2 hB2 HH HB
 clear hx
 go_enter Tryz.func99, Tryz.ntmps99
 go_wp2
 go_region
 all_goals
  go_wp2_with (go_at_call 73; refine (path_reader_fail.calls g _ _ _ _ _ _ r1 r2 r3 r4 w0 _ hI2.out hB2.out hG2.out HH.out).mono ?_; rintro e w2 ⟨rfl, h2, b2, k2⟩)
  go_end0
  exact ⟨rfl, h2, b2, (KeepBut.of_below HB.out g none).trans k2 (.inl rfl)⟩
end Go.Proofs.YtiooacmplmcphaaGreatDoor.Plug
namespace Go.Proofs.YtiooacmplmcphaaGreatDoor.Plug
open RowKit YtiooacmplmcphaaGreatDoor YtiooacmplmcphaaGreatDoorW.PrintWords YtiooacmplmcphaaGreatDoorW.PrintLast
def utf8_DecodeRuneInString.f (a0 : ByteArray) : Option (Int × Int) := some (((Lib.decodeGo a0).1 : Int), ((Lib.decodeGo a0).2 : Int))
theorem utf8_DecodeRuneInString.calls (a0 : ByteArray) (r1 r2 : Int) (w : World) (hG : Glob.G w) (h : utf8_DecodeRuneInString.f a0 = some (r1, r2)) :
  Calls Tryz.prog 138 #[.string a0] w fun e w' => e = .returned (.tuple #[.int .i32 r1, .int .i64 r2]) ∧ Below w.heap.size w w' := by
 simp only [utf8_DecodeRuneInString.f, Option.some.injEq, Prod.mk.injEq] at h
 obtain ⟨rfl, rfl⟩ := h
 exact Tryz.utf8_DecodeRuneInString a0 w hG.utf
def asciiB (cs : List UInt8) : Bool := cs.all fun b => decide (b.toNat < 128)
theorem info_set : (Tryz.prog.info? (Tryz.lays160_ren.t 116)).map (fun i => (i.zero, i.size)) = some (some (.agg (Array.replicate 256 (.bool false))), 256) := by kernel_rfl
def strings_Trim.f (a0 a1 : ByteArray) : Option ByteArray :=
  if a0.size ≤ 9223372036854775807 ∧ a1.size < 4294967281 ∧ asciiB a1.data.toList = true then some ⟨(Lib.trimS a0.data.toList a1.data.toList).toArray⟩ else none
theorem strings_Trim.calls (a0 a1 : ByteArray) (r : ByteArray) (w : World) (_hG : Glob.G w) (h : strings_Trim.f a0 a1 = some r) :
  Calls Tryz.prog 84 #[.string a0, .string a1] w fun e w' => e = .returned (.string r) ∧ Below w.heap.size w w' := by
 unfold strings_Trim.f at h
 by_cases c : a0.size ≤ 9223372036854775807 ∧ a1.size < 4294967281 ∧ asciiB a1.data.toList = true
 rotate_left
 · rw [if_neg c] at h; cases h
 rw [if_pos c] at h
 obtain rfl := Option.some.inj h
 exact Any.strings_Trim_laid Tryz.lays160 info_set a0 a1 w c.1 c.2.1 (ascii_of_all c.2.2)
def strconv_Itoa.f (a0 : Int) : Option ByteArray := if -9223372036854775808 ≤ a0 ∧ a0 ≤ 9223372036854775807 then some ⟨(Lib.itoa a0).toArray⟩ else none
theorem strconv_Itoa.calls (a0 : Int) (r : ByteArray) (w : World) (hG : Glob.G w) (h : strconv_Itoa.f a0 = some r) :
  Calls Tryz.prog 53 #[.int .i64 a0] w fun e w' => e = .returned (.string r) ∧ Below w.heap.size w w' := by
 unfold strconv_Itoa.f at h
 by_cases c : -9223372036854775808 ≤ a0 ∧ a0 ≤ 9223372036854775807
 rotate_left
 · rw [if_neg c] at h; cases h
 rw [if_pos c] at h
 obtain rfl := Option.some.inj h
 exact (Tryz.strconv_Itoa a0 c.1 c.2 w hG.pow).mono fun e w' ⟨he, k, os, hw⟩ => ⟨he, by rw [hw]; exact Lib.below_grow _ _ (Nat.le_refl _) _ _⟩
theorem info_setL : (Tryz.prog.info? (Tryz.lays161_ren.t 116)).map (fun i => (i.zero, i.size)) = some (some (.agg (Array.replicate 256 (.bool false))), 256) := by kernel_rfl
def strings_TrimLeft.f (a0 a1 : ByteArray) : Option ByteArray :=
  if a1.size < 4294967281 ∧ asciiB a1.data.toList = true then some ⟨(Lib.trimLeftS a0.data.toList a1.data.toList).toArray⟩ else none
theorem strings_TrimLeft.calls (a0 a1 : ByteArray) (r : ByteArray) (w : World) (_hG : Glob.G w) (h : strings_TrimLeft.f a0 a1 = some r) :
  Calls Tryz.prog 124 #[.string a0, .string a1] w fun e w' => e = .returned (.string r) ∧ Below w.heap.size w w' := by
 unfold strings_TrimLeft.f at h
 by_cases c : a1.size < 4294967281 ∧ asciiB a1.data.toList = true
 rotate_left
 · rw [if_neg c] at h; cases h
 rw [if_pos c] at h
 obtain rfl := Option.some.inj h
 exact Any.strings_TrimLeft_laid Tryz.lays161 info_setL a0 a1 w c.1 (ascii_of_all c.2)
def strings_HasPrefix.f (a0 a1 : ByteArray) : Option Bool := some (Lib.hasPrefix a0.data.toList a1.data.toList)
theorem strings_HasPrefix.calls (a0 a1 : ByteArray) (r : Bool) (w : World) (_hG : Glob.G w) (h : strings_HasPrefix.f a0 a1 = some r) :
  Calls Tryz.prog 125 #[.string a0, .string a1] w fun e w' => e = .returned (.bool r) ∧ Drawn0 w w' := by
 simp only [strings_HasPrefix.f, Option.some.injEq] at h
 subst h
 exact (Tryz.strings_HasPrefix a0 a1 w).mono fun e w' ⟨he, hw⟩ => ⟨he, by rw [hw]; exact Drawn0.refl _⟩
end Go.Proofs.YtiooacmplmcphaaGreatDoor.Plug
namespace Go.Proofs.YtiooacmplmcphaaGreatDoor.PX
open RowKit YtiooacmplmcphaaGreatDoorW.PrintWords YtiooacmplmcphaaGreatDoorW.PrintLast YtiooacmplmcphaaGreatDoorW.PrintMore YtiooacmplmcphaaGreatDoor
attribute [local go_sem] max2_int min2_int max_two min_two max_three min_three max_four min_four   -- for this text's walks alone
set_option linter.unusedVariables false
set_option linter.unusedSimpArgs false
def grommetref01_bytes.f (a0 : Int) : Option (List Int) := if a0 < 128 then (some (([(a0) % 256] : List Int))) else (if a0 < 2048 then (some (([(wrap64 (192 + (wrap64 (Int.tdiv a0 64)))) % 256, (wrap64 (128 + (Int.tmod a0 64))) % 256] : List Int))) else (if a0 < 65536 then (some (([(wrap64 (224 + (wrap64 (Int.tdiv a0 4096)))) % 256, (wrap64 (128 + (Int.tmod (wrap64 (Int.tdiv a0 64)) 64))) % 256, (wrap64 (128 + (Int.tmod a0 64))) % 256] : List Int))) else (some (([(wrap64 (240 + (wrap64 (Int.tdiv a0 262144)))) % 256, (wrap64 (128 + (Int.tmod (wrap64 (Int.tdiv a0 4096)) 64))) % 256, (wrap64 (128 + (Int.tmod (wrap64 (Int.tdiv a0 64)) 64))) % 256, (wrap64 (128 + (Int.tmod a0 64))) % 256] : List Int)))))
end Go.Proofs.YtiooacmplmcphaaGreatDoor.PX
namespace Go.Proofs.YtiooacmplmcphaaGreatDoor.Utf
open RowKit YtiooacmplmcphaaGreatDoor.PX YtiooacmplmcphaaGreatDoorW.PrintWords YtiooacmplmcphaaGreatDoorW.PrintLast
def at_ (l : List UInt8) (i : Nat) : Nat := (l.getD i 0).toNat
theorem at_lt (l : List UInt8) (i : Nat) : at_ l i < 256 := UInt8.toNat_lt _
def dec (l : List UInt8) : Int × Nat :=
 if l = [] then (-1, 0) else
 if (Lib.decodeN l.length (at_ l 0) (at_ l 1) (at_ l 2) (at_ l 3)).1 = 65533 ∧ (Lib.decodeN l.length (at_ l 0) (at_ l 1) (at_ l 2) (at_ l 3)).2 < 3 then
  (-1, (Lib.decodeN l.length (at_ l 0) (at_ l 1) (at_ l 2) (at_ l 3)).2)
 else (((Lib.decodeN l.length (at_ l 0) (at_ l 1) (at_ l 2) (at_ l 3)).1 : Int), (Lib.decodeN l.length (at_ l 0) (at_ l 1) (at_ l 2) (at_ l 3)).2)
def prt (n : Int) : Bool :=
 n == 9 || n == 10 || n == 13 || n == 133 || (decide (32 ≤ n) && decide (n ≤ 126)) || (decide (160 ≤ n) && decide (n ≤ 55295)) ||
 (decide (57344 ≤ n) && decide (n ≤ 65533) && n != 65279) || (decide (65536 ≤ n) && decide (n ≤ 1114111))
theorem bt_at_ (s : ByteArray) (i : Nat) : bt s (i : Int) = (at_ s.data.toList i : Int) := by
 unfold bt at_
 have hs : s.size = s.data.toList.length := by rw [Array.length_toList]; rfl
 by_cases h : i < s.size
 rotate_left
 · rw [dif_neg (by simpa using h), List.getD_eq_getElem?_getD, List.getElem?_eq_none (by omega)]; rfl
 rw [dif_pos (by simpa using h)]
 have : s.data.toList.getD i 0 = s[i] := by
  rw [List.getD_eq_getElem?_getD, List.getElem?_eq_getElem (by omega)]; rfl
 rw [this]; rfl
def sgn (n : Int) : Bool := decide (0 ≤ n) && decide (n ≤ 1114111) && (decide (n < 55296) || decide (57343 < n))
def byt (n : Int) : List Int :=
 if n < 128 then [n] else if n < 2048 then [192 + n / 64, 128 + n % 64] else
 if n < 65536 then [224 + n / 4096, 128 + n / 64 % 64, 128 + n % 64] else [240 + n / 262144, 128 + n / 4096 % 64, 128 + n / 64 % 64, 128 + n % 64]
theorem bytes_eq (n : Int) (h0 : 0 ≤ n) (h1 : n ≤ 1114111) : grommetref01_bytes.f n = some (byt n) := by
 unfold grommetref01_bytes.f byt
 have e1 : wrap64 (Int.tdiv n 64) = n / 64 := by rw [Int.tdiv_eq_ediv_of_nonneg h0]; unfold wrap64; omega
 have e2 : wrap64 (Int.tdiv n 4096) = n / 4096 := by rw [Int.tdiv_eq_ediv_of_nonneg h0]; unfold wrap64; omega
 have e3 : wrap64 (Int.tdiv n 262144) = n / 262144 := by rw [Int.tdiv_eq_ediv_of_nonneg h0]; unfold wrap64; omega
 have m1 : Int.tmod n 64 = n % 64 := Int.tmod_eq_emod_of_nonneg h0
 have m2 : Int.tmod (n / 64) 64 = n / 64 % 64 := Int.tmod_eq_emod_of_nonneg (by omega)
 have m3 : Int.tmod (n / 4096) 64 = n / 4096 % 64 := Int.tmod_eq_emod_of_nonneg (by omega)
 rw [e1, e2, e3, m1, m2, m3]
 by_cases a : n < 128
 · rw [if_pos a, if_pos a]; congr 2; omega
 rw [if_neg a, if_neg a]
 by_cases b : n < 2048
 ·
  rw [if_pos b, if_pos b]; congr 2
  · unfold wrap64; omega
  · congr 1; unfold wrap64; omega
 rw [if_neg b, if_neg b]
 by_cases c : n < 65536
 ·
  rw [if_pos c, if_pos c]; congr 2
  · unfold wrap64; omega
  ·
   congr 1
   · unfold wrap64; omega
   · congr 1; unfold wrap64; omega
 rw [if_neg c, if_neg c]; congr 2
 · unfold wrap64; omega
 ·
  congr 1
  · unfold wrap64; omega
  ·
   congr 1
   · unfold wrap64; omega
   · congr 1; unfold wrap64; omega
theorem u8 (n : Nat) (h : n < 256) : (UInt8.ofNat n).toNat = n := by
  rw [UInt8.toNat_ofNat']; exact Nat.mod_eq_of_lt h
theorem size_list (s : ByteArray) : s.size = s.data.toList.length := by rw [Array.length_toList]; rfl
end Go.Proofs.YtiooacmplmcphaaGreatDoor.Utf
namespace Go.Proofs.YtiooacmplmcphaaGreatDoor.PX
open RowKit YtiooacmplmcphaaGreatDoorW.PrintWords YtiooacmplmcphaaGreatDoorW.PrintLast YtiooacmplmcphaaGreatDoorW.PrintMore YtiooacmplmcphaaGreatDoor YtiooacmplmcphaaGreatDoor.Plug
attribute [local go_sem] max2_int min2_int max_two min_two max_three min_three max_four min_four   -- for this text's walks alone
set_option linter.unusedVariables false
set_option linter.unusedSimpArgs false
def utf_First.f (a0 : ByteArray) : Option (Int × Int) := (utf8_DecodeRuneInString.f a0).bind fun bt101 => (if bt101.1 = 65533 then (if bt101.2 < 3 then (some ((-1), bt101.2)) else (some (wrap64 (bt101.1), bt101.2))) else (some (wrap64 (bt101.1), bt101.2)))
theorem qna0_ {P : Prop} (h_ : P := by repeat (first | (with_reducible first | exact HB.out | apply below_alloc | apply pw_below_drewN | apply below_drew1) | exact HB.out)) : P := h_
theorem qna1_ {P : Prop} (h_ : P := by first | ((repeat (first | (with_reducible first | exact HB.out | apply below_alloc | apply pw_below_drewN | apply below_drew1 | (refine Glob.below_set ?_ (by assumption) _ _ _)) | exact HB.out)); done) | (refine Drawn0.below ?_; repeat (first | exact Drawn0.refl _ | assumption | apply Drawn0.step))) : P := h_
theorem qna2_ {P : Prop} (h_ : P := by (try simp only [List.map_toArray, List.map_cons, List.map_nil]); first | done | rfl | (simp only [List.length_drop, List.length_take]; rfl)) : P := h_
theorem qna3_ {P : Prop} (h_ : P := by first | rfl | (simp [errW_none, errW_some] <;> rfl) | (simp [*, errW_none, errW_some] <;> rfl)) : P := h_
set_option maxHeartbeats 8000000 in
set_option maxRecDepth 100000 in
theorem utf_First.calls (a0 : ByteArray) (r1 : Int) (r2 : Int) (w : World) (hG : Glob.G w) (h : utf_First.f a0 = some (r1, r2)) :
  Calls Tryz.prog 175 #[.string a0] w fun e w' => e = .returned (.tuple #[.int .i64 r1, .int .i64 r2]) ∧ Below w.heap.size w w' := by
 have HB := Aside0.mk (Below.refl w.heap.size w)
 have H : ((utf8_DecodeRuneInString.f a0).bind fun bt101 => (if bt101.1 = 65533 then (if bt101.2 < 3 then (some ((-1), bt101.2)) else (some (wrap64 (bt101.1), bt101.2))) else (some (wrap64 (bt101.1), bt101.2)))) = some (r1, r2) := h
 clear h
 replace H := Option.bind_eq_some_iff.mp H
 obtain ⟨⟨t101, t102⟩, A20, H⟩ := H
 replace H : (if t101 = 65533 then (if t102 < 3 then (some ((-1), t102)) else (some (wrap64 (t101), t102))) else (some (wrap64 (t101), t102))) = some (r1, r2) := H
 have A2 := Aside0.mk A20
 clear A20
 by_cases c3 : t101 = 65533
 rotate_left
 ·
  rw [if_neg c3] at H
  have c3b0 : (t101 == 65533) = false := beq_eq_false_iff_ne.mpr c3
  have c3b1 : (t101 != 65533) = true := bne_iff_ne.mpr c3
  simp only [Option.some.injEq, Prod.mk.injEq] at H
  obtain ⟨rfl, rfl⟩ := H
  go_enter Tryz.func175, Tryz.ntmps175
  go_wp2_with (first | ((with_reducible refine gate_callee (f := 138) rfl ?_); refine goesL_ (some 8) rfl rfl Tryz.func138 (by kernel_rfl) rfl #[.string a0] rfl (qna2_) ?_; (with_reducible refine (utf8_DecodeRuneInString.calls a0 t101 t102 _ (hG.below (qna1_)) A2.out).mono ?_); rintro e w7 ⟨rfl, hb⟩; refine ⟨_, rfl, ?_⟩; have n0_ := Aside0.mk (below_step (qna0_) hb); clear HB; have HB := n0_; clear n0_; (try clear hb)))
  go_ret2
  exact ⟨qna3_, qna0_⟩
 rw [if_pos c3] at H
 have c3b0 : (t101 == 65533) = true := beq_iff_eq.mpr c3
 have c3b1 : (t101 != 65533) = false := bne_eq_false_iff_eq.mpr c3
 clear c3
 by_cases c4 : t102 < 3
 ·
  rw [if_pos c4] at H
  have c4b0 : decide (t102 < 3) = true := decide_eq_true c4
  clear c4
  simp only [Option.some.injEq, Prod.mk.injEq] at H
  obtain ⟨rfl, rfl⟩ := H
  go_enter Tryz.func175, Tryz.ntmps175
  go_wp2_with (first | ((with_reducible refine gate_callee (f := 138) rfl ?_); refine goesL_ (some 8) rfl rfl Tryz.func138 (by kernel_rfl) rfl #[.string a0] rfl (qna2_) ?_; (with_reducible refine (utf8_DecodeRuneInString.calls a0 t101 t102 _ (hG.below (qna1_)) A2.out).mono ?_); rintro e w5 ⟨rfl, hb⟩; refine ⟨_, rfl, ?_⟩; have n0_ := Aside0.mk (below_step (qna0_) hb); clear HB; have HB := n0_; clear n0_; (try clear hb)))
  go_ret2
  exact ⟨qna3_, qna0_⟩
 rw [if_neg c4] at H
 have c4b0 : decide (t102 < 3) = false := decide_eq_false c4
 clear c4
 simp only [Option.some.injEq, Prod.mk.injEq] at H
 obtain ⟨rfl, rfl⟩ := H
 go_enter Tryz.func175, Tryz.ntmps175
 go_wp2_with (first | ((with_reducible refine gate_callee (f := 138) rfl ?_); refine goesL_ (some 8) rfl rfl Tryz.func138 (by kernel_rfl) rfl #[.string a0] rfl (qna2_) ?_; (with_reducible refine (utf8_DecodeRuneInString.calls a0 t101 t102 _ (hG.below (qna1_)) A2.out).mono ?_); rintro e w6 ⟨rfl, hb⟩; refine ⟨_, rfl, ?_⟩; have n0_ := Aside0.mk (below_step (qna0_) hb); clear HB; have HB := n0_; clear n0_; (try clear hb)))
 go_ret2
 exact ⟨qna3_, qna0_⟩
end Go.Proofs.YtiooacmplmcphaaGreatDoor.PX
namespace Go.Proofs.YtiooacmplmcphaaGreatDoor.PX
open RowKit YtiooacmplmcphaaGreatDoorW.PrintWords YtiooacmplmcphaaGreatDoorW.PrintLast YtiooacmplmcphaaGreatDoorW.PrintMore YtiooacmplmcphaaGreatDoor
attribute [local go_sem] max2_int min2_int max_two min_two max_three min_three max_four min_four   -- for this text's walks alone
set_option linter.unusedVariables false
set_option linter.unusedSimpArgs false
def utf_Printable.f (a0 : Int) : Option (Bool) := if a0 < 32 then (if a0 = 9 then (some true) else (if a0 = 10 then (some true) else (some (a0 == 13)))) else (if a0 < 127 then (some true) else (if a0 < 160 then (some (a0 == 133)) else (if a0 < 55296 then (some true) else (if a0 < 65536 then (if a0 ≥ 57344 then (if a0 ≤ 65533 then (some (a0 != 65279)) else (some false)) else (some false)) else (some (decide (a0 ≤ 1114111)))))))
theorem qoa0_ {P : Prop} (h_ : P := by first | rfl | (simp; done) | (simp [*]; done) | (simp; generalize ByteArray.toList _ = l_; cases l_ <;> rfl)) : P := h_
theorem qoa1_ {P : Prop} (h_ : P := by repeat (first | exact Drawn0.refl _ | apply Drawn0.step)) : P := h_
set_option maxHeartbeats 8000000 in
set_option maxRecDepth 100000 in
theorem utf_Printable.calls (a0 : Int) (r : Bool) (w : World) (hG : Glob.G w) (h : utf_Printable.f a0 = some r) :
  Calls Tryz.prog 176 #[.int .i64 a0] w fun e w' => e = .returned (.bool r) ∧ Drawn0 w w' := by
 have H : (if a0 < 32 then (if a0 = 9 then (some true) else (if a0 = 10 then (some true) else (some (a0 == 13)))) else (if a0 < 127 then (some true) else (if a0 < 160 then (some (a0 == 133)) else (if a0 < 55296 then (some true) else (if a0 < 65536 then (if a0 ≥ 57344 then (if a0 ≤ 65533 then (some (a0 != 65279)) else (some false)) else (some false)) else (some (decide (a0 ≤ 1114111)))))))) = some r := h
 clear h
 by_cases c2 : a0 < 32
 ·
  rw [if_pos c2] at H
  have c2b0 : decide (a0 < 32) = true := decide_eq_true c2
  clear c2
  by_cases c3 : a0 = 9
  ·
   rw [if_pos c3] at H
   have c3b0 : (a0 == 9) = true := beq_iff_eq.mpr c3
   have c3b1 : (a0 != 9) = false := bne_eq_false_iff_eq.mpr c3
   clear c3
   obtain rfl := Option.some.inj H
   go_enter Tryz.func176, Tryz.ntmps176
   go_wp2
   go_ret
   exact ⟨qoa0_, qoa1_⟩
  rw [if_neg c3] at H
  have c3b0 : (a0 == 9) = false := beq_eq_false_iff_ne.mpr c3
  have c3b1 : (a0 != 9) = true := bne_iff_ne.mpr c3
  by_cases c4 : a0 = 10
  rotate_left
  ·
   rw [if_neg c4] at H
   have c4b0 : (a0 == 10) = false := beq_eq_false_iff_ne.mpr c4
   have c4b1 : (a0 != 10) = true := bne_iff_ne.mpr c4
   obtain rfl := Option.some.inj H
   go_enter Tryz.func176, Tryz.ntmps176
   go_wp2
   go_ret
   exact ⟨qoa0_, qoa1_⟩
  rw [if_pos c4] at H
  have c4b0 : (a0 == 10) = true := beq_iff_eq.mpr c4
  have c4b1 : (a0 != 10) = false := bne_eq_false_iff_eq.mpr c4
  clear c4
  obtain rfl := Option.some.inj H
  go_enter Tryz.func176, Tryz.ntmps176
  go_wp2
  go_ret
  exact ⟨qoa0_, qoa1_⟩
 rw [if_neg c2] at H
 have c2b0 : decide (a0 < 32) = false := decide_eq_false c2
 clear c2
 by_cases c5 : a0 < 127
 ·
  rw [if_pos c5] at H
  have c5b0 : decide (a0 < 127) = true := decide_eq_true c5
  clear c5
  obtain rfl := Option.some.inj H
  go_enter Tryz.func176, Tryz.ntmps176
  go_wp2
  go_ret
  exact ⟨qoa0_, qoa1_⟩
 rw [if_neg c5] at H
 have c5b0 : decide (a0 < 127) = false := decide_eq_false c5
 clear c5
 by_cases c6 : a0 < 160
 ·
  rw [if_pos c6] at H
  have c6b0 : decide (a0 < 160) = true := decide_eq_true c6
  clear c6
  obtain rfl := Option.some.inj H
  go_enter Tryz.func176, Tryz.ntmps176
  go_wp2
  go_ret
  exact ⟨qoa0_, qoa1_⟩
 rw [if_neg c6] at H
 have c6b0 : decide (a0 < 160) = false := decide_eq_false c6
 clear c6
 by_cases c7 : a0 < 55296
 ·
  rw [if_pos c7] at H
  have c7b0 : decide (a0 < 55296) = true := decide_eq_true c7
  clear c7
  obtain rfl := Option.some.inj H
  go_enter Tryz.func176, Tryz.ntmps176
  go_wp2
  go_ret
  exact ⟨qoa0_, qoa1_⟩
 rw [if_neg c7] at H
 have c7b0 : decide (a0 < 55296) = false := decide_eq_false c7
 clear c7
 by_cases c8 : a0 < 65536
 rotate_left
 ·
  rw [if_neg c8] at H
  have c8b0 : decide (a0 < 65536) = false := decide_eq_false c8
  clear c8
  obtain rfl := Option.some.inj H
  go_enter Tryz.func176, Tryz.ntmps176
  go_wp2
  go_ret
  exact ⟨qoa0_, qoa1_⟩
 rw [if_pos c8] at H
 have c8b0 : decide (a0 < 65536) = true := decide_eq_true c8
 clear c8
 by_cases c9 : a0 ≥ 57344
 rotate_left
 ·
  rw [if_neg c9] at H
  have c9b0 : decide (57344 ≤ a0) = false := decide_eq_false c9
  clear c9
  obtain rfl := Option.some.inj H
  go_enter Tryz.func176, Tryz.ntmps176
  go_wp2
  go_ret
  exact ⟨qoa0_, qoa1_⟩
 rw [if_pos c9] at H
 have c9b0 : decide (57344 ≤ a0) = true := decide_eq_true c9
 clear c9
 by_cases c10 : a0 ≤ 65533
 ·
  rw [if_pos c10] at H
  have c10b0 : decide (a0 ≤ 65533) = true := decide_eq_true c10
  clear c10
  obtain rfl := Option.some.inj H
  go_enter Tryz.func176, Tryz.ntmps176
  go_wp2
  go_ret
  exact ⟨qoa0_, qoa1_⟩
 rw [if_neg c10] at H
 have c10b0 : decide (a0 ≤ 65533) = false := decide_eq_false c10
 clear c10
 obtain rfl := Option.some.inj H
 go_enter Tryz.func176, Tryz.ntmps176
 go_wp2
 go_ret
 exact ⟨qoa0_, qoa1_⟩
end Go.Proofs.YtiooacmplmcphaaGreatDoor.PX
namespace Go.Proofs.YtiooacmplmcphaaGreatDoor.Utf
open RowKit YtiooacmplmcphaaGreatDoor.PX YtiooacmplmcphaaGreatDoor.Plug YtiooacmplmcphaaGreatDoorW.PrintWords YtiooacmplmcphaaGreatDoorW.PrintLast
theorem decodeN_wide (n b0 b1 b2 b3 : Nat) (h : 1 ≤ n) : 1 ≤ (Lib.decodeN n b0 b1 b2 b3).2 ∧ (Lib.decodeN n b0 b1 b2 b3).2 ≤ 4 ∧ (Lib.decodeN n b0 b1 b2 b3).2 ≤ n := by
 unfold Lib.decodeN
 repeat' split
 all_goals (simp only; omega)
theorem decodeN_most (n b0 b1 b2 b3 : Nat) (h : b0 < 256) : (Lib.decodeN n b0 b1 b2 b3).1 ≤ 1114111 := by
 unfold Lib.decodeN
 repeat' split
 all_goals (simp only; omega)
theorem dec_wide (l : List UInt8) (h : l ≠ []) : 1 ≤ (dec l).2 ∧ (dec l).2 ≤ 4 ∧ (dec l).2 ≤ l.length := by
 have hl : 1 ≤ l.length := List.length_pos_iff.2 h
 have := decodeN_wide l.length (at_ l 0) (at_ l 1) (at_ l 2) (at_ l 3) hl
 unfold dec
 rw [if_neg h]
 split <;> exact this
theorem decodeGo_eq (s : ByteArray) : Lib.decodeGo s = if s.data.toList = [] then (65533, 0) else Lib.decodeN s.data.toList.length (at_ s.data.toList 0) (at_ s.data.toList 1) (at_ s.data.toList 2) (at_ s.data.toList 3) := by
 unfold Lib.decodeGo
 have hL := size_list s
 have g : ∀ i, (s.get! i).toNat = at_ s.data.toList i := by
  intro i
  unfold at_
  by_cases h : i < s.size
  · rw [Utf8W.get!_of_lt s i h, List.getD_eq_getElem?_getD, List.getElem?_eq_getElem (by omega)]; rfl
  rw [List.getD_eq_getElem?_getD, List.getElem?_eq_none (by omega)]
  cases s with
  | mk d => simp only [ByteArray.get!]; rw [getElem!_neg d i (show ¬ i < d.size from h)]; rfl
 by_cases h : s.data.toList = []
 · rw [if_pos h, if_pos (by rw [hL, h]; rfl)]
 rw [if_neg h, if_neg (fun e => h (List.eq_nil_of_length_eq_zero (by omega))), Lib.decode_at, g, g, g, g, Nat.sub_zero, hL]
theorem prog_first (s : ByteArray) : utf_First.f s = some ((dec s.data.toList).1, ((dec s.data.toList).2 : Int)) := by
 unfold utf_First.f utf8_DecodeRuneInString.f
 simp only [Option.bind_some]
 rw [decodeGo_eq]
 unfold dec
 by_cases h : s.data.toList = []
 · rw [if_pos h, if_pos h]; rfl
 rw [if_neg h, if_neg h]
 have hm := decodeN_most s.data.toList.length (at_ s.data.toList 0) (at_ s.data.toList 1) (at_ s.data.toList 2) (at_ s.data.toList 3) (at_lt _ _)
 generalize Lib.decodeN s.data.toList.length (at_ s.data.toList 0) (at_ s.data.toList 1) (at_ s.data.toList 2) (at_ s.data.toList 3) = d at *
 obtain ⟨r, n⟩ := d
 simp only at *
 have hw : wrap64 (r : Int) = r := by unfold wrap64; omega
 by_cases a : r = 65533
 rotate_left
 · rw [if_neg (by omega), if_neg (fun x => a x.1)]; simp; exact hw
 by_cases b : n < 3
 · rw [if_pos (by omega), if_pos (by omega), if_pos ⟨a, b⟩]
 rw [if_pos (by omega), if_neg (by omega), if_neg (fun x => b x.2)]; simp; exact hw
theorem prog_printable (n : Int) : utf_Printable.f n = some (prt n) := by
 unfold utf_Printable.f
 by_cases h1 : n = 9
 · subst h1; rfl
 by_cases h2 : n = 10
 · subst h2; rfl
 by_cases h3 : n = 13
 · subst h3; rfl
 by_cases h4 : n = 133
 · subst h4; rfl
 by_cases h5 : n = 65279
 · subst h5; rfl
 unfold prt
 rcases (by omega : n < 32 ∨ (32 ≤ n ∧ n ≤ 126) ∨ (126 < n ∧ n < 160) ∨ (160 ≤ n ∧ n ≤ 55295) ∨ (55295 < n ∧ n < 57344) ∨ (57344 ≤ n ∧ n ≤ 65533) ∨ (65533 < n ∧ n < 65536) ∨ 65536 ≤ n) with h | h | h | h | h | h | h | h
 all_goals
  repeat (first | rw [if_pos (by omega)] | rw [if_neg (by omega)])
  refine congrArg some (Bool.eq_iff_iff.2 ?_)
  simp only [Bool.or_eq_true, Bool.and_eq_true, decide_eq_true_eq, beq_iff_eq, bne_iff_ne, ne_eq, true_iff, Bool.false_eq_true, false_iff]
  omega
theorem drop_list (s : ByteArray) (i : Nat) : (s.extract i s.size).data.toList = s.data.toList.drop i := by
 rw [Lib.extract_data, List.take_of_length_le]
 rw [List.length_drop, ← size_list]
 omega
end Go.Proofs.YtiooacmplmcphaaGreatDoor.Utf
namespace Go.Proofs.YtiooacmplmcphaaGreatDoor.PX
open RowKit YtiooacmplmcphaaGreatDoorW.PrintWords YtiooacmplmcphaaGreatDoorW.PrintLast YtiooacmplmcphaaGreatDoorW.PrintMore YtiooacmplmcphaaGreatDoor
attribute [local go_sem] max2_int min2_int max_two min_two max_three min_three max_four min_four   -- for this text's walks alone
set_option linter.unusedVariables false
set_option linter.unusedSimpArgs false
def utf_fault.f (a0 : ByteArray) (a1 : Int) : Option (Int × Int) := if a1 < (a0.size : Int) then (some (8, a1)) else (some (0, 0))
theorem qpa0_ {P : Prop} (h_ : P := by repeat (first | (with_reducible first | exact HB.out | apply below_alloc | apply pw_below_drewN | apply below_drew1) | exact HB.out)) : P := h_
theorem qpa1_ {P : Prop} (h_ : P := by repeat (first | (with_reducible first | exact HB.out | apply below_alloc | apply pw_below_drewN | apply below_drew1 | refine below_set ?_ GE101.out) | exact HB.out)) : P := h_
set_option maxHeartbeats 8000000 in
set_option maxRecDepth 100000 in
theorem utf_fault.calls (a0 : ByteArray) (a1 : Int) (r1 : Int) (r2 : Int) (w : World) (hG : Glob.G w) (h : utf_fault.f a0 a1 = some (r1, r2)) :
  Calls Tryz.prog 143 #[.string a0, .int .i64 a1] w fun e w' => e = .returned (.agg #[.int .i64 r1, .int .i64 r2]) ∧ Below w.heap.size w w' := by
 have hu95 := Tryz.underlying95
 have HB := Aside0.mk (Below.refl w.heap.size w)
 have H : (if a1 < (a0.size : Int) then (some (8, a1)) else (some (0, 0))) = some (r1, r2) := h
 clear h
 by_cases c3 : a1 < (a0.size : Int)
 ·
  rw [if_pos c3] at H
  have c3b0 : decide (a1 < (a0.size : Int)) = true := decide_eq_true c3
  clear c3
  simp only [Option.some.injEq, Prod.mk.injEq] at H
  obtain ⟨rfl, rfl⟩ := H
  go_enter Tryz.func143, Tryz.ntmps143
  go_wp2_with (first | ((with_reducible refine gate_dst (N := 4) rfl ?_); refine box_event ?hg (N := 4) ?hd (cs := #[.int .i64 0, .int .i64 0]) (t := 95) ?hr ?_; (case hd => rfl); (case hg => rfl); (case hr => first | (go_simp; done) | (go_simp; rfl)); intro gb101 hg w4 hbox hb; have n0_ := Aside0.mk (below_step (qpa0_) hb); have n1_ := Aside0.mk (hbox); have n2_ := Aside0.mk ((by rw [hg]; exact (below_size (qpa0_)) : w.heap.size ≤ gb101)); have n3_ := Aside0.mk ((by rw [hg]; exact (below_size (qpa0_)) : w.heap.size ≤ gb101)); clear HB; have HB := n0_; have BK101 := n1_; have GW101 := n2_; have GE101 := n3_; clear n0_ n1_ n2_ n3_; clear hb hbox hg; have hcz5_0 : w4.cell? ⟨gb101, 0, none⟩ = some (.int .i64 0) := (blk_cell BK101.out 0).trans rfl; have hcz5_1 : w4.cell? ⟨gb101, 1, none⟩ = some (.int .i64 0) := (blk_cell BK101.out 1).trans rfl; have hfz5_0 := blk_frozen BK101.out 0; have hfz5_1 := blk_frozen BK101.out 1))
  refine bodyPost_ret (results_cell_row rfl _ _ gb101 95 #[.int .i64 8, .int .i64 a1] (0, 0) _ rfl (by (with_reducible repeat (first | refine blk_drewN ?_ _ | refine blk_drew ?_ | refine blk_alloc ?_ _)); refine blk_put (cs := #[.int .i64 8, .int .i64 0]) ?_ 1 _ rfl; (with_reducible repeat (first | refine blk_drewN ?_ _ | refine blk_drew ?_ | refine blk_alloc ?_ _)); refine blk_put (cs := #[.int .i64 0, .int .i64 0]) ?_ 0 _ rfl; (with_reducible repeat (first | refine blk_drewN ?_ _ | refine blk_drew ?_ | refine blk_alloc ?_ _)); exact BK101.out) Tryz.underlying95 rfl (by kernel_rfl)) rfl ?_
  exact ⟨by first | rfl | (simp [errW_none, errW_some] <;> rfl) | (simp [*, errW_none, errW_some] <;> rfl), qpa1_⟩
 rw [if_neg c3] at H
 have c3b0 : decide (a1 < (a0.size : Int)) = false := decide_eq_false c3
 clear c3
 simp only [Option.some.injEq, Prod.mk.injEq] at H
 obtain ⟨rfl, rfl⟩ := H
 go_enter Tryz.func143, Tryz.ntmps143
 go_wp2_with (first | ((with_reducible refine gate_dst (N := 4) rfl ?_); refine box_event ?hg (N := 4) ?hd (cs := #[.int .i64 0, .int .i64 0]) (t := 95) ?hr ?_; (case hd => rfl); (case hg => rfl); (case hr => first | (go_simp; done) | (go_simp; rfl)); intro gb101 hg w6 hbox hb; have n0_ := Aside0.mk (below_step (qpa0_) hb); have n1_ := Aside0.mk (hbox); have n2_ := Aside0.mk ((by rw [hg]; exact (below_size (qpa0_)) : w.heap.size ≤ gb101)); have n3_ := Aside0.mk ((by rw [hg]; exact (below_size (qpa0_)) : w.heap.size ≤ gb101)); clear HB; have HB := n0_; have BK101 := n1_; have GW101 := n2_; have GE101 := n3_; clear n0_ n1_ n2_ n3_; clear hb hbox hg; have hcz7_0 : w6.cell? ⟨gb101, 0, none⟩ = some (.int .i64 0) := (blk_cell BK101.out 0).trans rfl; have hcz7_1 : w6.cell? ⟨gb101, 1, none⟩ = some (.int .i64 0) := (blk_cell BK101.out 1).trans rfl; have hfz7_0 := blk_frozen BK101.out 0; have hfz7_1 := blk_frozen BK101.out 1))
 refine bodyPost_ret (results_cell_row rfl _ _ gb101 95 #[.int .i64 0, .int .i64 0] (0, 0) _ rfl (by (with_reducible repeat (first | refine blk_drewN ?_ _ | refine blk_drew ?_ | refine blk_alloc ?_ _)); refine blk_put (cs := #[.int .i64 0, .int .i64 0]) ?_ 1 _ rfl; (with_reducible repeat (first | refine blk_drewN ?_ _ | refine blk_drew ?_ | refine blk_alloc ?_ _)); refine blk_put (cs := #[.int .i64 0, .int .i64 0]) ?_ 0 _ rfl; (with_reducible repeat (first | refine blk_drewN ?_ _ | refine blk_drew ?_ | refine blk_alloc ?_ _)); exact BK101.out) Tryz.underlying95 rfl (by kernel_rfl)) rfl ?_
 exact ⟨by first | rfl | (simp [errW_none, errW_some] <;> rfl) | (simp [*, errW_none, errW_some] <;> rfl), qpa1_⟩
end Go.Proofs.YtiooacmplmcphaaGreatDoor.PX
namespace Go.Proofs.YtiooacmplmcphaaGreatDoor.PX
open RowKit YtiooacmplmcphaaGreatDoorW.PrintWords YtiooacmplmcphaaGreatDoorW.PrintLast YtiooacmplmcphaaGreatDoorW.PrintMore YtiooacmplmcphaaGreatDoor YtiooacmplmcphaaGreatDoor.Plug
attribute [local go_sem] max2_int min2_int max_two min_two max_three min_three max_four min_four   -- for this text's walks alone
set_option linter.unusedVariables false
set_option linter.unusedSimpArgs false
def plain_Text.f (a0 : Int) : Option (ByteArray) := (strconv_Itoa.f a0).bind fun t101 => (some t101)
theorem qqa0_ {P : Prop} (h_ : P := by repeat (first | (with_reducible first | exact HB.out | apply below_alloc | apply pw_below_drewN | apply below_drew1) | exact HB.out)) : P := h_
set_option maxHeartbeats 8000000 in
set_option maxRecDepth 100000 in
theorem plain_Text.calls (a0 : Int) (r : ByteArray) (w : World) (hG : Glob.G w) (h : plain_Text.f a0 = some r) :
  Calls Tryz.prog 68 #[.int .i64 a0] w fun e w' => e = .returned (.string r) ∧ Below w.heap.size w w' := by
 have HB := Aside0.mk (Below.refl w.heap.size w)
 have H : ((strconv_Itoa.f a0).bind fun t101 => (some t101)) = some r := h
 clear h
 replace H := Option.bind_eq_some_iff.mp H
 obtain ⟨t101, A20, H⟩ := H
 replace H : (some t101) = some r := H
 have A2 := Aside0.mk A20
 clear A20
 obtain rfl := Option.some.inj H
 go_enter Tryz.func68, Tryz.ntmps68
 go_wp2_with (first | ((with_reducible refine gate_callee (f := 53) rfl ?_); refine goesL_ (some 4) rfl rfl Tryz.func53 (by kernel_rfl) rfl #[.int .i64 a0] rfl (by (try simp only [List.map_toArray, List.map_cons, List.map_nil]); first | done | rfl | (simp only [List.length_drop, List.length_take]; rfl)) ?_; (with_reducible refine (strconv_Itoa.calls a0 t101 _ (hG.below (by first | ((repeat (first | (with_reducible first | exact HB.out | apply below_alloc | apply pw_below_drewN | apply below_drew1 | (refine Glob.below_set ?_ (by assumption) _ _ _)) | exact HB.out)); done) | (refine Drawn0.below ?_; repeat (first | exact Drawn0.refl _ | assumption | apply Drawn0.step)))) A2.out).mono ?_); rintro e w3 ⟨rfl, hb⟩; refine ⟨_, rfl, ?_⟩; have n0_ := Aside0.mk (below_step (qqa0_) hb); clear HB; have HB := n0_; clear n0_; (try clear hb)))
 go_ret
 exact ⟨by first | rfl | (simp [errW_none, errW_some] <;> rfl) | (simp [*, errW_none, errW_some] <;> rfl), qqa0_⟩
end Go.Proofs.YtiooacmplmcphaaGreatDoor.PX
namespace Go.Proofs.YtiooacmplmcphaaGreatDoor.Plug
open RowKit YtiooacmplmcphaaGreatDoor YtiooacmplmcphaaGreatDoor.PX YtiooacmplmcphaaGreatDoor.Utf YtiooacmplmcphaaGreatDoorW.PrintWords YtiooacmplmcphaaGreatDoorW.PrintLast
def numB (l : List UInt8) : Int × Bool := match Lib.atoiAll l with
 | .ok v => if Lib.itoa v = l then (v, true) else (0, false)
 | _ => (0, false)
def plain_Number.f (a0 : ByteArray) : Option (Int × Bool) := if a0.size ≤ 140737488351232 then some (numB a0.data.toList) else none
theorem atoi_ok (s : ByteArray) (w : World) (hs : s.size ≤ 140737488351232) (v : Int) (h : Lib.atoiAll s.data.toList = .ok v) :
    Calls Tryz.prog 126 #[.string s] w fun e w' => e = .returned (.tuple #[.int .i64 v, .nilIface]) ∧ Below w.heap.size w w' :=
  (Tryz.strconv_Atoi_ok s (by omega) v h w).mono fun e w' ⟨he, hw⟩ => ⟨he, by
    rcases hw with rfl | ⟨t, rfl⟩
    · exact Below.refl _ _
    · exact Lib.bytesWorld_below _ _ _⟩
theorem atoi_bad (s : ByteArray) (w : World) (hG : Glob.G w) (hs : s.size ≤ 140737488351232) (h : ∀ v, Lib.atoiAll s.data.toList ≠ .ok v) :
  ∃ n : Int, Calls Tryz.prog 126 #[.string s] w fun e w' => ∃ p : Addr, e = .returned (.tuple #[.int .i64 n, .iface 239 (.pointer (some p))]) ∧ Below w.heap.size w w' := by
 rcases hc : Lib.atoiAll s.data.toList with v | _ | _
 · exact absurd hc (h v)
 ·
  obtain ⟨tp, pp, hv⟩ := hG.syn
  exact ⟨0, (Any.strconv_Atoi_syntax_var Tryz.laysC172 s (by omega) hc tp pp w hv).mono fun e w' ⟨N, he, _, _, hb⟩ => ⟨_, he, hb⟩⟩
 ·
  obtain ⟨tp, pp, hv⟩ := hG.rng
  exact ⟨_, (Tryz.strconv_Atoi_range_var s (by omega) hc tp pp w hv).mono fun e w' ⟨N, he, _, _, hb⟩ => ⟨_, he, hb⟩⟩
set_option maxHeartbeats 1000000 in
theorem plain_Number.calls (a0 : ByteArray) (r1 : Int) (r2 : Bool) (w : World) (hG : Glob.G w) (h : plain_Number.f a0 = some (r1, r2)) :
  Calls Tryz.prog 148 #[.string a0] w fun e w' => e = .returned (.tuple #[.int .i64 r1, .bool r2]) ∧ Below w.heap.size w w' := by
 unfold plain_Number.f at h
 by_cases c : a0.size ≤ 140737488351232
 rotate_left
 · rw [if_neg c] at h; cases h
 rw [if_pos c] at h
 by_cases hv : ∃ v, Lib.atoiAll a0.data.toList = .ok v
 rotate_left
 ·
  obtain ⟨n, hA⟩ := atoi_bad a0 w hG c (fun v hv' => hv ⟨v, hv'⟩)
  have hN : numB a0.data.toList = (0, false) := by
   unfold numB
   rcases hc : Lib.atoiAll a0.data.toList with v | _ | _
   · exact absurd ⟨v, hc⟩ hv
   · rfl
   · rfl
  rw [hN] at h
  obtain ⟨rfl, rfl⟩ := Prod.mk.inj (Option.some.inj h)
  have HA := Lib.hid hA
  clear hA h hv hN
  go_enter Tryz.func148, Tryz.ntmps148
  go_wp2_with (first | (go_at_call 126; refine HA.out.mono ?_; rintro e w1 ⟨p, rfl, hb1⟩))
  go_ret2
  exact ⟨rfl, hb1⟩
 obtain ⟨v, hv⟩ := hv
 have hbd := Lib.atoiAll_bounds hv
 unfold numB at h
 rw [hv] at h
 simp only at h
 have hT : plain_Text.f v = some ⟨(Lib.itoa v).toArray⟩ := by unfold plain_Text.f strconv_Itoa.f; rw [if_pos hbd]; rfl
 have HV := Lib.hid hv; have HT := Lib.hid hT
 obtain ⟨b1, b2⟩ := hbd
 clear hv hT
 by_cases he : Lib.itoa v = a0.data.toList
 ·
  rw [if_pos he] at h
  obtain ⟨rfl, rfl⟩ := Prod.mk.inj (Option.some.inj h)
  have hne : (Lib.itoa v == a0.toList) = true := by rw [Lib.toList_data, he]; simp
  clear h he
  go_enter Tryz.func148, Tryz.ntmps148
  go_wp2_with (first | (go_at_call 126; refine (atoi_ok _ _ c _ HV.out).mono ?_; rintro e w1 ⟨rfl, hb1⟩) | (go_at_call 68; refine (plain_Text.calls _ _ _ (hG.below hb1) HT.out).mono ?_; rintro e w2 ⟨rfl, hb2⟩))
  go_ret2
  exact ⟨rfl, hb1.trans (hb2.mono hb1.size)⟩
 rw [if_neg he] at h
 obtain ⟨rfl, rfl⟩ := Prod.mk.inj (Option.some.inj h)
 have hne : (Lib.itoa v == a0.toList) = false := by rw [Lib.toList_data]; simpa using he
 clear h he
 go_enter Tryz.func148, Tryz.ntmps148
 go_wp2_with (first | (go_at_call 126; refine (atoi_ok _ _ c _ HV.out).mono ?_; rintro e w1 ⟨rfl, hb1⟩) | (go_at_call 68; refine (plain_Text.calls _ _ _ (hG.below hb1) HT.out).mono ?_; rintro e w2 ⟨rfl, hb2⟩))
 go_ret2
 exact ⟨rfl, hb1.trans (hb2.mono hb1.size)⟩
def resB (l : List UInt8) : Int :=
  if l = [] ∨ l = [126] ∨ l = [110, 117, 108, 108] then 1 else if l = [116, 114, 117, 101] ∨ l = [102, 97, 108, 115, 101] then 2 else if (numB l).2 = true then 3 else 4
def plain_Resolve.f (a0 : ByteArray) : Option Int := if a0.size ≤ 140737488351232 then some (resB a0.data.toList) else none
theorem of_list {s : ByteArray} {l : List UInt8} (h : s.data.toList = l) : s = ⟨l.toArray⟩ := by
 cases s with
 | mk d => subst h; rfl
set_option maxHeartbeats 2000000 in
theorem plain_Resolve.calls (a0 : ByteArray) (r : Int) (w : World) (hG : Glob.G w) (h : plain_Resolve.f a0 = some r) :
  Calls Tryz.prog 117 #[.string a0] w fun e w' => e = .returned (.int .i64 r) ∧ Below w.heap.size w w' := by
 unfold plain_Resolve.f at h
 by_cases c : a0.size ≤ 140737488351232
 rotate_left
 · rw [if_neg c] at h; cases h
 rw [if_pos c] at h
 obtain rfl := Option.some.inj h
 clear h
 by_cases h0 : a0.data.toList = []
 ·
  obtain rfl := of_list h0; clear h0 c hG
  rw [show resB (⟨([] : List UInt8).toArray⟩ : ByteArray).data.toList = 1 from rfl]
  go_enter Tryz.func117, Tryz.ntmps117
  go_wp2_with (fail)
  go_ret
  exact ⟨rfl, Below.refl _ _⟩
 by_cases h1 : a0.data.toList = [126]
 ·
  obtain rfl := of_list h1; clear h0 h1 c hG
  rw [show resB (⟨([126] : List UInt8).toArray⟩ : ByteArray).data.toList = 1 from rfl]
  go_enter Tryz.func117, Tryz.ntmps117
  go_wp2_with (fail)
  go_ret
  exact ⟨rfl, Below.refl _ _⟩
 by_cases h2 : a0.data.toList = [110, 117, 108, 108]
 ·
  obtain rfl := of_list h2; clear h0 h1 h2 c hG
  rw [show resB (⟨([110, 117, 108, 108] : List UInt8).toArray⟩ : ByteArray).data.toList = 1 from rfl]
  go_enter Tryz.func117, Tryz.ntmps117
  go_wp2_with (fail)
  go_ret
  exact ⟨rfl, Below.refl _ _⟩
 by_cases h3 : a0.data.toList = [116, 114, 117, 101]
 ·
  obtain rfl := of_list h3; clear h0 h1 h2 h3 c hG
  rw [show resB (⟨([116, 114, 117, 101] : List UInt8).toArray⟩ : ByteArray).data.toList = 2 from rfl]
  go_enter Tryz.func117, Tryz.ntmps117
  go_wp2_with (fail)
  go_ret
  exact ⟨rfl, Below.refl _ _⟩
 by_cases h4 : a0.data.toList = [102, 97, 108, 115, 101]
 ·
  obtain rfl := of_list h4; clear h0 h1 h2 h3 h4 c hG
  rw [show resB (⟨([102, 97, 108, 115, 101] : List UInt8).toArray⟩ : ByteArray).data.toList = 2 from rfl]
  go_enter Tryz.func117, Tryz.ntmps117
  go_wp2_with (fail)
  go_ret
  exact ⟨rfl, Below.refl _ _⟩
 have hN : plain_Number.f a0 = some ((numB a0.data.toList).1, (numB a0.data.toList).2) := by unfold plain_Number.f; rw [if_pos c]
 have hR : resB a0.data.toList = if (numB a0.data.toList).2 = true then 3 else 4 := by
  unfold resB
  rw [if_neg (by simp [h0, h1, h2]), if_neg (by simp [h3, h4])]
 have e0 : a0.toList.isEmpty = false := by rw [Lib.toList_data]; simpa using h0
 have e1 : (a0.toList == [126]) = false := by rw [Lib.toList_data]; simpa using h1
 have e2 : (a0.toList == [110, 117, 108, 108]) = false := by rw [Lib.toList_data]; simpa using h2
 have e3 : (a0.toList == [116, 114, 117, 101]) = false := by rw [Lib.toList_data]; simpa using h3
 have e4 : (a0.toList == [102, 97, 108, 115, 101]) = false := by rw [Lib.toList_data]; simpa using h4
 rw [hR]
 generalize numB a0.data.toList = nb at hN
 obtain ⟨n, b⟩ := nb
 have HN := Lib.hid hN
 clear hN hR h0 h1 h2 h3 h4
 cases b
 all_goals
  go_enter Tryz.func117, Tryz.ntmps117
  go_wp2_with (go_at_call 148; refine (plain_Number.calls _ _ _ _ hG HN.out).mono ?_; rintro e w1 ⟨rfl, hb1⟩)
  go_ret
  exact ⟨rfl, hb1⟩
end Go.Proofs.YtiooacmplmcphaaGreatDoor.Plug
set_option linter.unusedVariables false
namespace Go.Proofs.YtiooacmplmcphaaGreatDoor.Bld
open RowKit YtiooacmplmcphaaGreatDoor
structure Lies (T : TypeId) : Prop where
 lies : liesAt Tryz.prog Tryz.prog.depth T (2 / Tryz.prog.cellsOf T) 0 106 1 = true
 ne : T ≠ 5
theorem lies_plain : Lies 106 := ⟨by kernel_rfl, by decide⟩
theorem lies_quote : Lies 187 := ⟨by kernel_rfl, by decide⟩
theorem size_bld : (Tryz.prog.info? 106).map (·.size) = some 2 := by kernel_rfl
theorem info_byte : (Tryz.prog.info? 5).map (fun i => (i.zero, i.size, i.bytes)) = some (some (.int .u8 0), 1, 1) := by kernel_rfl
theorem ptr_bld : Tryz.prog.underlying 103 = some (.pointer 106) := by kernel_rfl
theorem ptr_raw : Tryz.prog.underlying 176 = some .unsafePointer := by kernel_rfl
theorem row_byte : Tryz.prog.underlying 104 = some (.slice 5) := by kernel_rfl
theorem str_t : Tryz.prog.underlying 9 = some .string := by kernel_rfl
set_option maxHeartbeats 2000000 in
set_option maxRecDepth 100000 in
theorem check (T : TypeId) (hT : Lies T) (B b : Nat) (bs : List Value) (w : World) (h : Lib.IsBuilderF T 5 B b bs w) :
  Calls Tryz.prog 82 #[.pointer (some ⟨b, 0, none⟩)] w fun e w' => e = .returned (.tuple #[]) ∧ (Lib.BuilderAtF T 5 B b (.pointer (some ⟨b, 0, none⟩)) bs w' ∧ Below B w w' ∧ Lib.OthersKept 5 (some b) w w') := by
 obtain ⟨j, hj, hjs⟩ := Option.map_eq_some_iff.1 size_bld
 rcases h with h | h
 ·
  have h0 := h.cell0; have hsh := h.shape; have hfz := h.frozen0
  have HE : Hid (Lib.BuilderAtF T 5 B b (.pointer (some ⟨b, 0, none⟩)) bs (w.setCell ⟨b, 0, none⟩ (.pointer (some ⟨b, 0, none⟩))) ∧ Below B w (w.setCell ⟨b, 0, none⟩ (.pointer (some ⟨b, 0, none⟩))) ∧ Lib.OthersKept 5 (some b) w (w.setCell ⟨b, 0, none⟩ (.pointer (some ⟨b, 0, none⟩)))) :=
   Lib.hid ⟨h.used _, (Below.refl B w).setCell (p := ⟨b, 0, none⟩) h.1 _, (Lib.OthersKept.refl _ _ w).setCell ⟨b, 0, none⟩ rfl _⟩
  clear h
  go_enter Tryz.func82, Tryz.ntmps82
  go_wp2
  rw [Lib.run_to_unsafe w ⟨b, 0, none⟩ ptr_bld ptr_raw hj (by rw [hjs]; decide) hsh (Nat.zero_lt_succ 1)]
  simp only [Result.andThen]
  rw [Oper.upon_value]
  go_wp2
  rw [run_callFunc_extern Tryz.func106 (by kernel_rfl) (by kernel_rfl) (by kernel_rfl) (e := Extern.AbiNoEscape.same) (by kernel_rfl)]
  rw [Lib.run_noEscape]
  simp only [Result.andThen]
  rw [Oper.upon_value]
  go_wp2
  rw [Lib.run_from_unsafe w ⟨b, 0, none⟩ ptr_raw ptr_bld hj hsh hT.lies]
  simp only [Result.andThen]
  rw [Oper.upon_value]
  go_wp2
  go_end0
  exact ⟨rfl, HE.out⟩
 ·
  have h0 := h.cell0
  have HE : Hid (Lib.BuilderAtF T 5 B b (.pointer (some ⟨b, 0, none⟩)) bs w ∧ Below B w w ∧ Lib.OthersKept 5 (some b) w w) := Lib.hid ⟨h, Below.refl B _, Lib.OthersKept.refl _ _ _⟩
  clear h
  go_enter Tryz.func82, Tryz.ntmps82
  go_wp2
  rw [Lib.run_neq_ptr_same w _ ptr_bld hj]
  go_wp2
  go_end0
  exact ⟨rfl, HE.out⟩
def Wrote (T : TypeId) (B b : Nat) (bs : List Value) (w w' : World) : Prop :=
  Lib.BuilderAtF T 5 B b (.pointer (some ⟨b, 0, none⟩)) bs w' ∧ Below B w w' ∧ Lib.OthersKept 5 (some b) w w'
theorem at_lt {w : World} {b : Nat} {o : Obj} (h : w.heap[b]? = some o) : b < w.heap.size := by
 rcases Nat.lt_or_ge b w.heap.size with h' | h'
 · exact h'
 · simp [Array.getElem?_eq_none h'] at h
set_option maxHeartbeats 2000000 in
set_option maxRecDepth 100000 in
theorem byte (T : TypeId) (hT : Lies T) (B b : Nat) (bs : List Value) (c : Int) (w : World) (h : Lib.IsBuilderF T 5 B b bs w) (hlen : bs.length + 1 ≤ 140737488355328) (hBw : B ≤ w.heap.size) :
  Calls Tryz.prog 55 #[.pointer (some ⟨b, 0, none⟩), .int .u8 c] w fun e w' => e = .returned .nilIface ∧ Wrote T B b (bs ++ [.int .u8 c]) w w' := by
 obtain ⟨i0, hi, hz0, hz1, hz2⟩ := info_parts info_byte
 go_enter Tryz.func55, Tryz.ntmps55
 go_wp2_with (go_at_call 82; refine (check T hT B b bs _ h).mono ?_)
 rintro e w1 ⟨rfl, h1, hb1, hk1⟩
 obtain ⟨hB, v, hbk, hown, hne⟩ := h1
 have c0 : w1.cell? ⟨b, 0, none⟩ = some (.pointer (some ⟨b, 0, none⟩)) := by rw [Lib.cell_of_heap hbk]; rfl
 have c1 : w1.cell? ⟨b, 1, none⟩ = some v := by rw [Lib.cell_of_heap hbk]; rfl
 go_wp2_with (at_builtin; refine wpList_append_ownF _ rfl _ _ 104 rfl B 5 i0 (.int .u8 0) 1 1 row_byte hi hz0 hz1 hz2 rfl (by decide) _ _ _ rfl (hown.alloc _) ⟨w1.heap.size, 0, none⟩ 1 1 [.int .u8 c] rfl rfl ?c1 ?c2 ?c3 ?c4 ?c5 ?_)
 case c1 =>
  intro j u hj
  match j, hj with
  | 0, hj => simp at hj; subst hj; simp [Addr.add]
 case c2 => intro u hu; simp at hu; subst hu; rfl
 case c3 => unfold maxLen; omega
 case c4 => omega
 case c5 => have := hb1.size; simp; omega
 intro v' w2 hown' hgrow _
 have hlt := at_lt hbk
 have hb2 : w2.heap[b]? = some (.cells #[.pointer (some ⟨b, 0, none⟩), v] T (0, 0)) := by
  rw [hgrow.block b (by simp; omega) (fun e => hne e.symm), Lib.alloc_old w1 _ b hlt]
  exact hbk
 have d0 : w2.cell? ⟨b, 0, none⟩ = some (.pointer (some ⟨b, 0, none⟩)) := by rw [Lib.cell_of_heap hb2]; rfl
 have d1 : w2.cell? ⟨b, 1, none⟩ = some v := by rw [Lib.cell_of_heap hb2]; rfl
 have f1 : w2.frozen? ⟨b, 1, none⟩ = false := Lib.frozen_of_heap hb2 1
 obtain ⟨g, cap, rfl⟩ : ∃ g cap, v' = .slice (some ⟨g, 0, none⟩) (bs.length + 1) cap := by
  rcases hown'.2 with ⟨_, h0⟩ | ⟨g, cap, cur, fz, hv, _⟩
  · omega
  · exact ⟨g, cap, hv⟩
 go_wp2
 go_ret
 refine ⟨rfl, ?_, ?_, ((hk1.alloc _).grown hgrow (Lib.ownsRowF_kind (hown.alloc _))).setCell ⟨b, 1, none⟩ rfl _⟩
 · exact Lib.BuilderAtF.put (T := T) (e := 5) hB hb2 (bs' := bs ++ [.int .u8 c]) (by simpa using hown') hT.ne
 · exact ((hb1.alloc (by have := hb1.size; omega) _).grown hgrow (by have := hb1.size; simp; omega) (fun k hk => (hown.lt k hk).1)).setCell (p := ⟨b, 1, none⟩) hB _
set_option maxHeartbeats 2000000 in
set_option maxRecDepth 100000 in
theorem text (T : TypeId) (hT : Lies T) (B b : Nat) (bs : List Value) (s : ByteArray) (w : World) (h : Lib.IsBuilderF T 5 B b bs w) (hlen : bs.length + s.size ≤ 140737488355328) (hBw : B ≤ w.heap.size) :
  Calls Tryz.prog 52 #[.pointer (some ⟨b, 0, none⟩), .string s] w fun e w' => e = .returned (.tuple #[.int .i64 s.size, .nilIface]) ∧ Wrote T B b (bs ++ Lib.strCells s) w w' := by
 obtain ⟨i0, hi, hz0, hz1, hz2⟩ := info_parts info_byte
 go_enter Tryz.func52, Tryz.ntmps52
 go_wp2_with (go_at_call 82; refine (check T hT B b bs _ h).mono ?_)
 rintro e w1 ⟨rfl, h1, hb1, hk1⟩
 obtain ⟨hB, v, hbk, hown, hne⟩ := h1
 have c0 : w1.cell? ⟨b, 0, none⟩ = some (.pointer (some ⟨b, 0, none⟩)) := by rw [Lib.cell_of_heap hbk]; rfl
 have c1 : w1.cell? ⟨b, 1, none⟩ = some v := by rw [Lib.cell_of_heap hbk]; rfl
 go_wp2_with (at_builtin; refine Lib.wpList_append_own_stringF _ rfl _ _ 104 9 rfl B 5 i0 row_byte str_t hi hz0 hz1 hz2 _ _ _ rfl hown s rfl ?c3 ?c4 ?c5 ?_)
 case c3 => unfold maxLen; omega
 case c4 => omega
 case c5 => have := hb1.size; omega
 intro v' w2 hown' hgrow _
 have hlt := at_lt hbk
 have hb2 : w2.heap[b]? = some (.cells #[.pointer (some ⟨b, 0, none⟩), v] T (0, 0)) := by
  rw [hgrow.block b hlt (fun e => hne e.symm)]
  exact hbk
 have d0 : w2.cell? ⟨b, 0, none⟩ = some (.pointer (some ⟨b, 0, none⟩)) := by rw [Lib.cell_of_heap hb2]; rfl
 have d1 : w2.cell? ⟨b, 1, none⟩ = some v := by rw [Lib.cell_of_heap hb2]; rfl
 have f1 : w2.frozen? ⟨b, 1, none⟩ = false := Lib.frozen_of_heap hb2 1
 obtain ⟨ao, n', cap, rfl⟩ : ∃ ao n' cap, v' = .slice ao n' cap := by
  rcases hown'.2 with ⟨hv, _⟩ | ⟨g, cap, cur, fz, hv, _⟩
  · exact ⟨_, _, _, hv⟩
  · exact ⟨_, _, _, hv⟩
 go_wp2
 go_ret2
 refine ⟨rfl, ?_, ?_, (hk1.grown hgrow (Lib.ownsRowF_kind hown)).setCell ⟨b, 1, none⟩ rfl _⟩
 · exact Lib.BuilderAtF.put (T := T) (e := 5) hB hb2 (bs' := bs ++ Lib.strCells s) (by simpa [Lib.strCells_length] using hown') hT.ne
 · exact (hb1.grown hgrow (by have := hb1.size; omega) (fun k hk => (hown.lt k hk).1)).setCell (p := ⟨b, 1, none⟩) hB _
set_option maxHeartbeats 4000000 in
set_option maxRecDepth 100000 in
theorem put2 (B : Nat) (v : Value) (n : Nat) (xs : List Value) (r : Int) (h0 : 128 ≤ r) (h1 : r ≤ 2047) (w : World) (hown : w.ownsRowF B 5 1 v n xs) (hlen : n + 4 ≤ 140737488355328) (hBw : B ≤ w.heap.size) :
  Calls Tryz.prog 196 #[v, .int .i32 r] w fun e w' => ∃ v', e = .returned v' ∧ w'.ownsRowF B 5 1 v' (n + 2) (xs ++ [.int .u8 (192 + r / 64), .int .u8 (128 + r % 64)]) ∧ ∃ o, (w.alloc o).grownBy w' v.ownBlock := by
 obtain ⟨i0, hi, hz0, hz1, hz2⟩ := info_parts info_byte
 go_enter Tryz.func196, Tryz.ntmps196
 go_wp2_with (at_builtin; refine wpList_append_ownF _ rfl _ _ 104 rfl B 5 i0 (.int .u8 0) 1 1 row_byte hi hz0 hz1 hz2 rfl (by decide) _ _ _ rfl (hown.alloc _) ⟨w.heap.size, 0, none⟩ 2 2 [.int .u8 (192 + r / 64), .int .u8 (128 + r % 64)] rfl rfl ?c1 ?c2 ?c3 ?c4 ?c5 ?_)
 case c1 =>
  intro j u hj
  match j, hj with
  | 0, hj => simp at hj; subst hj; simp [Addr.add]
  | 1, hj => simp at hj; subst hj; simp [Addr.add]
  | (j + 2), hj => simp at hj
 case c2 => intro u hu; simp at hu; rcases hu with rfl | rfl <;> rfl
 case c3 => unfold maxLen; omega
 case c4 => omega
 case c5 => simp; omega
 intro v' w2 hown' hgrow _
 go_wp2
 go_ret
 exact ⟨_, rfl, hown', _, hgrow⟩
set_option maxHeartbeats 4000000 in
set_option maxRecDepth 100000 in
theorem put3 (B : Nat) (v : Value) (n : Nat) (xs : List Value) (r : Int) (h : (2048 ≤ r ∧ r < 55296) ∨ (57343 < r ∧ r ≤ 65535)) (w : World) (hown : w.ownsRowF B 5 1 v n xs) (hlen : n + 4 ≤ 140737488355328) (hBw : B ≤ w.heap.size) :
  Calls Tryz.prog 196 #[v, .int .i32 r] w fun e w' => ∃ v', e = .returned v' ∧ w'.ownsRowF B 5 1 v' (n + 3) (xs ++ [.int .u8 (224 + r / 4096), .int .u8 (128 + r / 64 % 64), .int .u8 (128 + r % 64)]) ∧ ∃ o, (w.alloc o).grownBy w' v.ownBlock := by
 obtain ⟨i0, hi, hz0, hz1, hz2⟩ := info_parts info_byte
 rcases h with ⟨h0, h1⟩ | ⟨h0, h1⟩
 all_goals
  go_enter Tryz.func196, Tryz.ntmps196
  go_wp2_with (at_builtin; refine wpList_append_ownF _ rfl _ _ 104 rfl B 5 i0 (.int .u8 0) 1 1 row_byte hi hz0 hz1 hz2 rfl (by decide) _ _ _ rfl (hown.alloc _) ⟨w.heap.size, 0, none⟩ 3 3 [.int .u8 (224 + r / 4096), .int .u8 (128 + r / 64 % 64), .int .u8 (128 + r % 64)] rfl rfl ?c1 ?c2 ?c3 ?c4 ?c5 ?_)
  case c1 =>
   intro j u hj
   match j, hj with
   | 0, hj => simp at hj; subst hj; simp [Addr.add]
   | 1, hj => simp at hj; subst hj; simp [Addr.add]
   | 2, hj => simp at hj; subst hj; simp [Addr.add]
   | (j + 3), hj => simp at hj
  case c2 => intro u hu; simp at hu; rcases hu with rfl | rfl | rfl <;> rfl
  case c3 => unfold maxLen; omega
  case c4 => omega
  case c5 => simp; omega
  intro v' w2 hown' hgrow _
  go_wp2
  go_ret
  exact ⟨_, rfl, hown', _, hgrow⟩
set_option maxHeartbeats 4000000 in
set_option maxRecDepth 100000 in
theorem put4 (B : Nat) (v : Value) (n : Nat) (xs : List Value) (r : Int) (h0 : 65536 ≤ r) (h1 : r ≤ 1114111) (w : World) (hown : w.ownsRowF B 5 1 v n xs) (hlen : n + 4 ≤ 140737488355328) (hBw : B ≤ w.heap.size) :
  Calls Tryz.prog 196 #[v, .int .i32 r] w fun e w' => ∃ v', e = .returned v' ∧ w'.ownsRowF B 5 1 v' (n + 4) (xs ++ [.int .u8 (240 + r / 262144), .int .u8 (128 + r / 4096 % 64), .int .u8 (128 + r / 64 % 64), .int .u8 (128 + r % 64)]) ∧ ∃ o, (w.alloc o).grownBy w' v.ownBlock := by
 obtain ⟨i0, hi, hz0, hz1, hz2⟩ := info_parts info_byte
 go_enter Tryz.func196, Tryz.ntmps196
 go_wp2_with (at_builtin; refine wpList_append_ownF _ rfl _ _ 104 rfl B 5 i0 (.int .u8 0) 1 1 row_byte hi hz0 hz1 hz2 rfl (by decide) _ _ _ rfl (hown.alloc _) ⟨w.heap.size, 0, none⟩ 4 4 [.int .u8 (240 + r / 262144), .int .u8 (128 + r / 4096 % 64), .int .u8 (128 + r / 64 % 64), .int .u8 (128 + r % 64)] rfl rfl ?c1 ?c2 ?c3 ?c4 ?c5 ?_)
 case c1 =>
  intro j u hj
  match j, hj with
  | 0, hj => simp at hj; subst hj; simp [Addr.add]
  | 1, hj => simp at hj; subst hj; simp [Addr.add]
  | 2, hj => simp at hj; subst hj; simp [Addr.add]
  | 3, hj => simp at hj; subst hj; simp [Addr.add]
  | (j + 4), hj => simp at hj
 case c2 => intro u hu; simp at hu; rcases hu with rfl | rfl | rfl | rfl <;> rfl
 case c3 => unfold maxLen; omega
 case c4 => omega
 case c5 => simp; omega
 intro v' w2 hown' hgrow _
 go_wp2
 go_ret
 exact ⟨_, rfl, hown', _, hgrow⟩
theorem ptr_byte : Tryz.prog.underlying 154 = some (.pointer 5) := by kernel_rfl
theorem cells_byte : Tryz.prog.cellsOf 5 = 1 := by kernel_rfl
set_option maxHeartbeats 4000000 in
set_option maxRecDepth 100000 in
theorem rune1 (B : Nat) (v : Value) (n : Nat) (xs : List Value) (r : Int) (h0 : 0 ≤ r) (h1 : r ≤ 127) (w : World) (hown : w.ownsRowF B 5 1 v n xs) (hlen : n + 4 ≤ 140737488355328) (hBw : B ≤ w.heap.size) :
    Calls Tryz.prog 177 #[v, .int .i32 r] w fun e w' => ∃ v', e = .returned v' ∧ w'.ownsRowF B 5 1 v' (n + 1) (xs ++ [.int .u8 r]) ∧ ∃ o, (w.alloc o).grownBy w' v.ownBlock := by
  obtain ⟨i0, hi, hz0, hz1, hz2⟩ := info_parts info_byte
  go_enter Tryz.func177, Tryz.ntmps177
  go_wp2_with (at_builtin; refine wpList_append_ownF _ rfl _ _ 104 rfl B 5 i0 (.int .u8 0) 1 1 row_byte hi hz0 hz1 hz2 rfl (by decide) _ _ _ rfl (hown.alloc _) ⟨w.heap.size, 0, none⟩ 1 1 [.int .u8 r] rfl rfl ?c1 ?c2 ?c3 ?c4 ?c5 ?_)
  all_goals first
    | (intro v' w2 hown' hgrow _; go_wp2; go_ret; exact ⟨_, rfl, hown', _, hgrow⟩)
    | (unfold maxLen; omega)
    | omega
    | (simp; omega)
    | rfl
    | (intro u hu; simp at hu; subst hu; rfl)
    | (intro j u hj
       match j, hj with
       | 0, hj => simp at hj; subst hj; simp [Addr.add]
       | (j + 1), hj => simp at hj)
set_option maxHeartbeats 4000000 in
set_option maxRecDepth 100000 in
theorem rune (B : Nat) (v : Value) (n : Nat) (xs : List Value) (r : Int) (hr : 0 ≤ r ∧ r ≤ 1114111 ∧ (r < 55296 ∨ 57343 < r)) (w : World) (hown : w.ownsRowF B 5 1 v n xs) (hlen : n + 4 ≤ 140737488355328) (hBw : B ≤ w.heap.size) :
  Calls Tryz.prog 177 #[v, .int .i32 r] w fun e w' => ∃ v', e = .returned v' ∧ w'.ownsRowF B 5 1 v' (n + (Lib.runeCells r).length) (xs ++ Lib.runeCells r) ∧ ∃ o, (w.alloc o).grownBy w' v.ownBlock := by
 by_cases c : r ≤ 127
 ·
  rw [show Lib.runeCells r = [.int .u8 r] by simp [Lib.runeCells, Lib.encodeRuneZ_one hr.1 c]]
  exact rune1 B v n xs r hr.1 c w hown hlen hBw
 have key : Calls Tryz.prog 196 #[v, .int .i32 r] w fun e w' => ∃ v', e = .returned v' ∧ w'.ownsRowF B 5 1 v' (n + (Lib.runeCells r).length) (xs ++ Lib.runeCells r) ∧ ∃ o, (w.alloc o).grownBy w' v.ownBlock := by
  by_cases c1 : r ≤ 2047
  ·
   rw [show Lib.runeCells r = [.int .u8 (192 + r / 64), .int .u8 (128 + r % 64)] by simp [Lib.runeCells, Lib.encodeRuneZ_two (by omega) c1]]
   exact put2 B v n xs r (by omega) c1 w hown hlen hBw
  by_cases c4 : r ≤ 65535
  rotate_left
  ·
   rw [show Lib.runeCells r = [.int .u8 (240 + r / 262144), .int .u8 (128 + r / 4096 % 64), .int .u8 (128 + r / 64 % 64), .int .u8 (128 + r % 64)] by simp [Lib.runeCells, Lib.encodeRuneZ_four (by omega) hr.2.1]]
   exact put4 B v n xs r (by omega) hr.2.1 w hown hlen hBw
  have h3 : (2048 ≤ r ∧ r < 55296) ∨ (57343 < r ∧ r ≤ 65535) := by omega
  rw [show Lib.runeCells r = [.int .u8 (224 + r / 4096), .int .u8 (128 + r / 64 % 64), .int .u8 (128 + r % 64)] by simp [Lib.runeCells, Lib.encodeRuneZ_three h3]]
  exact put3 B v n xs r h3 w hown hlen hBw
 obtain ⟨q0, q1, _⟩ := hr
 have q2 : 127 < r := by omega
 clear c hown hlen hBw
 go_enter Tryz.func177, Tryz.ntmps177
 go_wp2_with (go_at_call 196; refine key.mono ?_)
 rintro e w1 ⟨v', rfl, h1, o, h2⟩
 go_wp2
 go_ret
 exact ⟨_, rfl, h1, o, h2⟩
set_option maxHeartbeats 4000000 in
set_option maxRecDepth 100000 in
theorem sign (T : TypeId) (hT : Lies T) (B b : Nat) (bs : List Value) (r : Int) (hr : 0 ≤ r ∧ r ≤ 1114111 ∧ (r < 55296 ∨ 57343 < r)) (w : World) (h : Lib.IsBuilderF T 5 B b bs w) (hlen : bs.length + 4 ≤ 140737488355328) (hBw : B ≤ w.heap.size) :
  Calls Tryz.prog 146 #[.pointer (some ⟨b, 0, none⟩), .int .i32 r] w fun e w' => e = .returned (.tuple #[.int .i64 (Lib.runeCells r).length, .nilIface]) ∧ Wrote T B b (bs ++ Lib.runeCells r) w w' := by
 have hk4 := Lib.runeCells_le r
 have hrr := Lib.hid hr
 clear hr
 go_enter Tryz.func146, Tryz.ntmps146
 go_wp2_with (go_at_call 82; refine (check T hT B b bs _ h).mono ?_)
 rintro e w1 ⟨rfl, h1, hb1, hk1⟩
 obtain ⟨hB, v, hbk, hown, hne⟩ := h1
 obtain ⟨ao, cap, rfl⟩ : ∃ ao cap, v = .slice ao bs.length cap := by
  rcases hown.2 with ⟨hv, h0⟩ | ⟨g, cap, cur, fz, hv, _⟩
  · exact ⟨none, 0, by rw [hv, h0]⟩
  · exact ⟨_, _, hv⟩
 have c0 : w1.cell? ⟨b, 0, none⟩ = some (.pointer (some ⟨b, 0, none⟩)) := by rw [Lib.cell_of_heap hbk]; rfl
 have c1 : w1.cell? ⟨b, 1, none⟩ = some (.slice ao bs.length cap) := by rw [Lib.cell_of_heap hbk]; rfl
 go_wp2_with (go_at_call 177; refine (rune B _ bs.length bs r hrr.out _ hown hlen (by have := hb1.size; omega)).mono ?_)
 rintro e w2 ⟨v', rfl, hown', o, hgrow⟩
 have hlt := at_lt hbk
 have hb2 : w2.heap[b]? = some (.cells #[.pointer (some ⟨b, 0, none⟩), .slice ao bs.length cap] T (0, 0)) := by
  rw [hgrow.block b (by simp; omega) (fun e => hne e.symm), Lib.alloc_old w1 _ b hlt]
  exact hbk
 have d0 : w2.cell? ⟨b, 0, none⟩ = some (.pointer (some ⟨b, 0, none⟩)) := by rw [Lib.cell_of_heap hb2]; rfl
 have d1 : w2.cell? ⟨b, 1, none⟩ = some (.slice ao bs.length cap) := by rw [Lib.cell_of_heap hb2]; rfl
 have f1 : w2.frozen? ⟨b, 1, none⟩ = false := Lib.frozen_of_heap hb2 1
 obtain ⟨g, cap', rfl⟩ : ∃ g cap', v' = .slice (some ⟨g, 0, none⟩) (bs.length + (Lib.runeCells r).length) cap' := by
  rcases hown'.2 with ⟨_, h0⟩ | ⟨g, cap', cur, fz, hv, _⟩
  · omega
  · exact ⟨g, cap', hv⟩
 go_wp2
 go_ret2
 refine ⟨?_, ?_, ?_, ((hk1.alloc _).grown hgrow (Lib.ownsRowF_kind (hown.alloc _))).setCell ⟨b, 1, none⟩ rfl _⟩
 ·
  have e : ((bs.length : Int) + ((Lib.runeCells r).length : Int) - (bs.length : Int)) = ((Lib.runeCells r).length : Int) := by omega
  simp [e]
 · exact Lib.BuilderAtF.put (T := T) (e := 5) hB hb2 (bs' := bs ++ Lib.runeCells r) (by simpa using hown') hT.ne
 · exact ((hb1.alloc (by have := hb1.size; omega) _).grown hgrow (by have := hb1.size; simp; omega) (fun k hk => (hown.lt k hk).1)).setCell (p := ⟨b, 1, none⟩) hB _
set_option maxHeartbeats 2000000 in
set_option maxRecDepth 100000 in
theorem got (T : TypeId) (B b : Nat) (l : List UInt8) (w : World) (h : Lib.IsBuilderF T 5 B b (Lib.byteCells l) w) (hBw : B ≤ w.heap.size) :
  Calls Tryz.prog 56 #[.pointer (some ⟨b, 0, none⟩)] w fun e w' => e = .returned (.string ⟨l.toArray⟩) ∧ Below B w w' := by
 obtain ⟨p, hAt⟩ : ∃ p, Lib.BuilderAtF T 5 B b p (Lib.byteCells l) w := by
  rcases h with h | h
  · exact ⟨_, h⟩
  · exact ⟨_, h⟩
 clear h
 obtain ⟨hB, v, hbk, hown, hne⟩ := hAt
 rw [Lib.byteCells_length] at hown
 have hlt := at_lt hbk
 by_cases hl : l = []
 rotate_left
 ·
  have hl0 : l.length ≠ 0 := by simpa using hl
  obtain ⟨g, cap, cur, fz, rfl, hbg, hg, hfz, hnc, hcm, hcs, htake⟩ : ∃ g cap cur fz, v = .slice (some ⟨g, 0, none⟩) l.length cap ∧ B ≤ g ∧ w.heap[g]? = some (.cells cur 5 fz) ∧ fz.2 ≤ l.length * 1 ∧ l.length ≤ cap ∧ cap ≤ maxLen ∧ cur.size = cap * 1 ∧ cur.toList.take (l.length * 1) = Lib.byteCells l := by
   rcases hown.2 with ⟨_, hz⟩ | ⟨g, cap, cur, fz, hv, r⟩
   · exact absurd hz hl0
   · exact ⟨g, cap, cur, fz, hv, r⟩
  have c1 : w.drew.cell? ⟨b, 1, none⟩ = some (.slice (some ⟨g, 0, none⟩) l.length cap) := by
   have : w.drew.heap[b]? = some (.cells #[p, .slice (some ⟨g, 0, none⟩) l.length cap] T (0, 0)) := hbk
   rw [Lib.cell_of_heap this]; rfl
  have hSD : (Builtin.unsafeSliceData_ #[104] 154 #[.slice (some ⟨g, 0, none⟩) l.length cap]).run Tryz.prog w.drew = .ok (.pointer (some ⟨g, 0, none⟩)) w.drew :=
   Lib.run_unsafeSliceData_row _ _ _ _ _ _ (by omega)
  have hUS : (Builtin.unsafeString_ #[154, 3] 9 #[.pointer (some ⟨g, 0, none⟩), .int .i64 l.length]).run Tryz.prog w.drew = .ok (.string ⟨l.toArray⟩) (w.drew.freeze ⟨g, 0, none⟩ l.length) := by
   refine Lib.run_unsafeString_row w.drew 154 3 9 5 ptr_byte cells_byte g cur.size (by have hg' : w.drew.heap[g]? = some (.cells cur 5 fz) := hg; simp [World.shape?, hg']) l hl (by omega) (by unfold maxLen at hcm; omega) ?_
   intro j x hx
   have := hown.cells (g := g) rfl j (.int .u8 x.toNat) (by simp [Lib.byteCells, hx])
   exact this
  clear hown htake hcs hnc hfz
  go_enter Tryz.func56, Tryz.ntmps56
  go_wp2
  go_region
  all_goals (go_wp2; go_ret; exact ⟨rfl, Lib.below_freeze (Below.drew (Below.refl B w)) (p := ⟨g, 0, none⟩) hbg _⟩)
 subst hl
 have hUS : ∀ (W : World) (q : Option Addr), (Builtin.unsafeString_ #[154, 3] 9 #[.pointer q, .int .i64 0]).run Tryz.prog W = .ok (.string .empty) W := fun W q => Lib.run_unsafeString_none W _ _ _ q
 rcases hown.2 with ⟨rfl, _⟩ | ⟨g, cap, cur, fz, rfl, hbg, hg, _, _, _, _, _⟩
 ·
  have c1 : w.drew.cell? ⟨b, 1, none⟩ = some (.slice none 0 0) := by
   have : w.drew.heap[b]? = some (.cells #[p, .slice none 0 0] T (0, 0)) := hbk
   rw [Lib.cell_of_heap this]; rfl
  have hSD : (Builtin.unsafeSliceData_ #[104] 154 #[.slice none 0 0]).run Tryz.prog w.drew = .ok (.pointer none) w.drew := rfl
  clear hown
  go_enter Tryz.func56, Tryz.ntmps56
  go_wp2
  go_region
  all_goals (go_wp2; go_ret; exact ⟨rfl, Below.drew (Below.refl B w)⟩)
 ·
  by_cases hc0 : cap = 0
  rotate_left
  ·
   have c1 : w.drew.cell? ⟨b, 1, none⟩ = some (.slice (some ⟨g, 0, none⟩) 0 cap) := by
    have : w.drew.heap[b]? = some (.cells #[p, .slice (some ⟨g, 0, none⟩) 0 cap] T (0, 0)) := hbk
    rw [Lib.cell_of_heap this]; rfl
   have hSD : (Builtin.unsafeSliceData_ #[104] 154 #[.slice (some ⟨g, 0, none⟩) 0 cap]).run Tryz.prog w.drew = .ok (.pointer (some ⟨g, 0, none⟩)) w.drew :=
    Lib.run_unsafeSliceData_row _ _ _ _ _ _ hc0
   clear hc0 hown
   go_enter Tryz.func56, Tryz.ntmps56
   go_wp2
   go_region
   all_goals (go_wp2; go_ret; exact ⟨rfl, Below.drew (Below.refl B w)⟩)
  subst hc0
  have c1 : w.drew.cell? ⟨b, 1, none⟩ = some (.slice (some ⟨g, 0, none⟩) 0 0) := by
   have : w.drew.heap[b]? = some (.cells #[p, .slice (some ⟨g, 0, none⟩) 0 0] T (0, 0)) := hbk
   rw [Lib.cell_of_heap this]; rfl
  have hSD : (Builtin.unsafeSliceData_ #[104] 154 #[.slice (some ⟨g, 0, none⟩) 0 0]).run Tryz.prog w.drew = .ok (.pointer (some ⟨w.drew.heap.size, 0, none⟩)) (w.drew.alloc (.view ⟨g, 0, none⟩ 5)) :=
   Lib.run_unsafeSliceData_zero w.drew _ _ 5 ptr_byte ⟨g, 0, none⟩ 0 (5, cur.size) (by have hg' : w.drew.heap[g]? = some (.cells cur 5 fz) := hg; simp [World.shape?, hg'])
  have c2 : (w.drew.alloc (.view ⟨g, 0, none⟩ 5)).cell? ⟨b, 1, none⟩ = some (.slice (some ⟨g, 0, none⟩) 0 0) := by
   have : (w.drew.alloc (.view ⟨g, 0, none⟩ 5)).heap[b]? = _ := (Lib.alloc_old w.drew _ b hlt).trans hbk
   rw [Lib.cell_of_heap this]; rfl
  have c3 : (w.alloc (.view ⟨g, 0, none⟩ 5)).drew.cell? ⟨b, 1, none⟩ = some (.slice (some ⟨g, 0, none⟩) 0 0) := c2
  have c0 : w.cell? ⟨b, 1, none⟩ = some (.slice (some ⟨g, 0, none⟩) 0 0) := c1
  clear hown
  go_enter Tryz.func56, Tryz.ntmps56
  go_wp2
  go_region
  all_goals (go_wp2; go_ret; exact ⟨rfl, (Below.drew (Below.refl B w)).alloc hBw _⟩)
end Go.Proofs.YtiooacmplmcphaaGreatDoor.Bld
namespace Go.Proofs.YtiooacmplmcphaaGreatDoor.Utf
def enc (n : Int) : List UInt8 := Lib.encodeRune n
theorem sgn_iff (n : Int) : sgn n = true ↔ 0 ≤ n ∧ n ≤ 1114111 ∧ (n < 55296 ∨ 57343 < n) := by
  unfold sgn; simp [and_assoc]
theorem dec_neg {l : List UInt8} {w : Nat} (h : l ≠ []) (e : Lib.decodeN l.length (at_ l 0) (at_ l 1) (at_ l 2) (at_ l 3) = (65533, w)) (hw : w < 3) : dec l = (-1, w) := by
  unfold dec; rw [if_neg h, e, if_pos ⟨rfl, hw⟩]
theorem dec_pos {l : List UInt8} {n w : Nat} (h : l ≠ []) (e : Lib.decodeN l.length (at_ l 0) (at_ l 1) (at_ l 2) (at_ l 3) = (n, w)) (hw : ¬ (n = 65533 ∧ w < 3)) : dec l = ((n : Int), w) := by
  unfold dec; rw [if_neg h, e, if_neg hw]
theorem dec_shape (l : List UInt8) (h : l ≠ []) :
    (at_ l 0 < 128 ∧ dec l = ((at_ l 0 : Int), 1)) ∨
    (at_ l 0 / 32 = 6 ∧ 1 < l.length ∧ at_ l 1 / 64 = 2 ∧ 128 ≤ at_ l 0 % 32 * 64 + at_ l 1 % 64 ∧ dec l = (((at_ l 0 % 32 * 64 + at_ l 1 % 64 : Nat) : Int), 2)) ∨
    (at_ l 0 / 16 = 14 ∧ 2 < l.length ∧ at_ l 1 / 64 = 2 ∧ at_ l 2 / 64 = 2 ∧ 2048 ≤ at_ l 0 % 16 * 4096 + at_ l 1 % 64 * 64 + at_ l 2 % 64 ∧ (at_ l 0 % 16 * 4096 + at_ l 1 % 64 * 64 + at_ l 2 % 64 < 55296 ∨ 57344 ≤ at_ l 0 % 16 * 4096 + at_ l 1 % 64 * 64 + at_ l 2 % 64) ∧
      dec l = (((at_ l 0 % 16 * 4096 + at_ l 1 % 64 * 64 + at_ l 2 % 64 : Nat) : Int), 3)) ∨
    (at_ l 0 / 8 = 30 ∧ 3 < l.length ∧ at_ l 1 / 64 = 2 ∧ at_ l 2 / 64 = 2 ∧ at_ l 3 / 64 = 2 ∧ 65536 ≤ at_ l 0 % 8 * 262144 + at_ l 1 % 64 * 4096 + at_ l 2 % 64 * 64 + at_ l 3 % 64 ∧ at_ l 0 % 8 * 262144 + at_ l 1 % 64 * 4096 + at_ l 2 % 64 * 64 + at_ l 3 % 64 ≤ 1114111 ∧
      dec l = (((at_ l 0 % 8 * 262144 + at_ l 1 % 64 * 4096 + at_ l 2 % 64 * 64 + at_ l 3 % 64 : Nat) : Int), 4)) ∨
    dec l = (-1, 1) := by
  rcases Lib.decodeN_shape l.length (at_ l 0) (at_ l 1) (at_ l 2) (at_ l 3) with ⟨c, e⟩ | ⟨c1, c2, c3, cv, e⟩ | ⟨c1, c2, c3, c4, cv, cs, e⟩ | ⟨c1, c2, c3, c4, c5, cv, cw, e⟩ | e
  · exact .inl ⟨c, dec_pos h e (by omega)⟩
  · exact .inr (.inl ⟨c1, c2, c3, cv, dec_pos h e (by omega)⟩)
  · exact .inr (.inr (.inl ⟨c1, c2, c3, c4, cv, cs, dec_pos h e (by omega)⟩))
  · exact .inr (.inr (.inr (.inl ⟨c1, c2, c3, c4, c5, cv, cw, dec_pos h e (by omega)⟩)))
  · exact .inr (.inr (.inr (.inr (dec_neg h e (by omega)))))
theorem byte_of (z : Int) (l : List UInt8) (i : Nat) (h : z = (at_ l i : Int)) : z.toNat.toUInt8 = l.getD i 0 := Lib.toByte z _ h
theorem enc_dec (l : List UInt8) (h : 0 ≤ (dec l).1) : sgn (dec l).1 = true ∧ l ≠ [] ∧ (dec l).2 = (enc (dec l).1).length ∧ enc (dec l).1 ++ l.drop (dec l).2 = l := by
 by_cases hne : l = []
 · subst hne; exact absurd h (by decide)
 have hl : 0 < l.length := List.length_pos_iff.2 hne
 have k0 := at_lt l 0; have k1 := at_lt l 1; have k2 := at_lt l 2; have k3 := at_lt l 3
 have key : sgn (dec l).1 = true ∧ enc (dec l).1 = l.take (dec l).2 ∧ (dec l).2 ≤ l.length := by
  rw [sgn_iff]
  rcases dec_shape l hne with ⟨c, e⟩ | ⟨c1, c2, c3, cv, e⟩ | ⟨c1, c2, c3, c4, cv, cs, e⟩ | ⟨c1, c2, c3, c4, c5, cv, cw, e⟩ | e
  ·
   rw [e]; dsimp only
   refine ⟨by omega, ?_, by omega⟩
   unfold enc Lib.encodeRune
   rw [Lib.encodeRuneZ_one (by omega) (by omega), Lib.takeA l hl]
   simp only [List.map_cons, List.map_nil]
   rw [byte_of _ l 0 rfl]
  ·
   rw [e]; dsimp only
   refine ⟨by omega, ?_, by omega⟩
   unfold enc Lib.encodeRune
   rw [Lib.encodeRuneZ_two (by omega) (by omega), Lib.takeB l c2]
   simp only [List.map_cons, List.map_nil]
   rw [byte_of _ l 0 (by omega), byte_of _ l 1 (by omega)]
  ·
   rw [e]; dsimp only
   refine ⟨by omega, ?_, by omega⟩
   unfold enc Lib.encodeRune
   rw [Lib.encodeRuneZ_three (by omega), Lib.takeC l c2]
   simp only [List.map_cons, List.map_nil]
   rw [byte_of _ l 0 (by omega), byte_of _ l 1 (by omega), byte_of _ l 2 (by omega)]
  ·
   rw [e]; dsimp only
   refine ⟨by omega, ?_, by omega⟩
   unfold enc Lib.encodeRune
   rw [Lib.encodeRuneZ_four (by omega) (by omega), Lib.takeD l c2]
   simp only [List.map_cons, List.map_nil]
   rw [byte_of _ l 0 (by omega), byte_of _ l 1 (by omega), byte_of _ l 2 (by omega), byte_of _ l 3 (by omega)]
  · rw [e] at h; exact absurd h (by decide)
 refine ⟨key.1, hne, ?_, ?_⟩
 · rw [key.2.1, List.length_take]; omega
 · rw [key.2.1, List.take_append_drop]
def may (n : Int) : Bool := prt n && n != 9 && n != 10 && n != 13
def signsF : Nat → List UInt8 → Option (List Int)
 | 0, _ => some []
 | k + 1, l => if l = [] then some [] else if (dec l).1 < 0 then none else (signsF k (l.drop (dec l).2)).map ((dec l).1 :: ·)
def signs (l : List UInt8) : Option (List Int) := signsF l.length l
def hexc (n : Nat) : UInt8 := UInt8.ofNat (if n < 10 then 48 + n else 87 + n)
def hexs (n : Nat) : Nat → List UInt8
 | 0 => []
 | m + 1 => hexs (n / 16) m ++ [hexc (n % 16)]
def escS (n : Int) : List UInt8 :=
 if n = 34 then [92, 34] else if n = 92 then [92, 92] else if n = 9 then [92, 116] else if n = 10 then [92, 110] else if n = 13 then [92, 114] else if n = 0 then [92, 48] else
 if may n = true then enc n else if n < 256 then 92 :: 120 :: hexs n.toNat 2 else if n < 65536 then 92 :: 117 :: hexs n.toNat 4 else 92 :: 85 :: hexs n.toNat 8
def hexv (c : Nat) : Int := if 48 ≤ c ∧ c ≤ 57 then (c : Int) - 48 else if 97 ≤ c ∧ c ≤ 102 then (c : Int) - 87 else if 65 ≤ c ∧ c ≤ 70 then (c : Int) - 55 else -1
def digs : Nat → List UInt8 → Int → Int × Int
 | 0, _, n => (n, 0)
 | _ + 1, [], _ => (0, 4)
 | m + 1, c :: t, n => if hexv c.toNat < 0 then (0, 3) else digs m t (n * 16 + hexv c.toNat)
def hexE (l : List UInt8) (m : Nat) : Int × Nat × Int :=
  if (digs m (l.drop 2) 0).2 ≠ 0 then (0, 0, (digs m (l.drop 2) 0).2) else if sgn (digs m (l.drop 2) 0).1 = true then ((digs m (l.drop 2) 0).1, 2 + m, 0) else (0, 0, 3)
def escB (l : List UInt8) : Int × Nat × Int :=
 if l.length < 2 then (0, 0, 4) else
 if at_ l 1 = 34 ∨ at_ l 1 = 92 then ((at_ l 1 : Int), 2, 0) else if at_ l 1 = 110 then (10, 2, 0) else if at_ l 1 = 116 then (9, 2, 0) else if at_ l 1 = 114 then (13, 2, 0) else
 if at_ l 1 = 48 then (0, 2, 0) else if at_ l 1 = 120 then hexE l 2 else if at_ l 1 = 117 then hexE l 4 else if at_ l 1 = 85 then hexE l 8 else (0, 0, 3)
def oneB (l : List UInt8) (q : Nat) : List UInt8 × Nat × Int :=
 if at_ l 0 = q then (if q = 39 ∧ 1 < l.length ∧ at_ l 1 = 39 then ([39], 2, 0) else ([], 0, 0)) else
 if q = 34 ∧ at_ l 0 = 92 then (if (escB l).2.2 ≠ 0 then ([], 0, (escB l).2.2) else (enc (escB l).1, (escB l).2.1, 0)) else
 if may (dec l).1 = true then (l.take (dec l).2, (dec l).2, 0) else ([], 0, 8)
def readF : Nat → List UInt8 → Nat → Nat → List UInt8 → List UInt8 × Nat × Int × Nat
 | 0, _, _, i, _ => ([], 0, 4, i)
 | k + 1, l, q, i, acc => if l = [] then ([], 0, 4, i) else
  if (oneB l q).2.2 = 4 then ([], 0, 4, i + l.length) else if (oneB l q).2.2 ≠ 0 then ([], 0, (oneB l q).2.2, i) else
  if (oneB l q).2.1 = 0 then (acc, i + 1, 0, 0) else readF k (l.drop (oneB l q).2.1) q (i + (oneB l q).2.1) (acc ++ (oneB l q).1)
def readB (s : List UInt8) : List UInt8 × Nat × Int × Nat :=
  if s = [] ∨ (at_ s 0 ≠ 39 ∧ at_ s 0 ≠ 34) then ([], 0, 3, 0) else readF s.length (s.drop 1) (at_ s 0) 1 []
def doubleB (zs : List Int) : List UInt8 := 34 :: (zs.flatMap escS ++ [34])
theorem may_sgn {n : Int} (h : may n = true) : sgn n = true := by
  unfold may prt at h; rw [sgn_iff]; simp at h; omega
theorem enc_len (n : Int) : 1 ≤ (enc n).length ∧ (enc n).length ≤ 4 := by
  have := Lib.encodeRuneZ_length n; unfold enc Lib.encodeRune; rw [List.length_map]; exact this
theorem dec_len (l : List UInt8) (h : l ≠ []) : 1 ≤ (dec l).2 ∧ (dec l).2 ≤ l.length := by
 have hl : 0 < l.length := List.length_pos_iff.2 h
 rcases dec_shape l h with ⟨c, e⟩ | ⟨c1, c2, c3, cv, e⟩ | ⟨c1, c2, c3, c4, cv, cs, e⟩ | ⟨c1, c2, c3, c4, c5, cv, cw, e⟩ | e <;> rw [e] <;> dsimp only <;> omega
theorem signsF_some : ∀ (k : Nat) (l : List UInt8) (zs : List Int), l.length ≤ k → signsF k l = some zs → l = zs.flatMap enc ∧ ∀ z ∈ zs, sgn z = true
 | 0, l, zs, hk, h => by
  have : l = [] := List.eq_nil_of_length_eq_zero (by omega)
  subst this; cases Option.some.inj h; exact ⟨rfl, by simp⟩
 | k + 1, l, zs, hk, h => by
  unfold signsF at h
  by_cases hn : l = []
  · rw [if_pos hn] at h; cases Option.some.inj h; exact ⟨by simpa using hn, by simp⟩
  rw [if_neg hn] at h
  by_cases hd : (dec l).1 < 0
  · rw [if_pos hd] at h; cases h
  rw [if_neg hd] at h
  obtain ⟨ys, hy, rfl⟩ := Option.map_eq_some_iff.1 h
  have hw := dec_len l hn
  obtain ⟨e1, e2⟩ := signsF_some k _ ys (by rw [List.length_drop]; omega) hy
  obtain ⟨s1, _, _, s4⟩ := enc_dec l (by omega)
  refine ⟨?_, ?_⟩
  · rw [List.flatMap_cons, ← e1, s4]
  ·
   intro z hz; rcases List.mem_cons.1 hz with rfl | hz
   · exact s1
   · exact e2 z hz
theorem signs_some {l : List UInt8} {zs : List Int} (h : signs l = some zs) : l = zs.flatMap enc ∧ ∀ z ∈ zs, sgn z = true := signsF_some _ _ _ (Nat.le_refl _) h
theorem hexs_len : ∀ (m n : Nat), (hexs n m).length = m
 | 0, _ => rfl
 | m + 1, n => by simp [hexs, hexs_len m]
theorem sgn_nat {n : Int} (h : sgn n = true) : 0 ≤ n ∧ n ≤ 1114111 := by rw [sgn_iff] at h; omega
theorem doubleB_len (zs : List Int) : (doubleB zs).length = 2 + (zs.flatMap escS).length := by
  unfold doubleB; simp; omega
end Go.Proofs.YtiooacmplmcphaaGreatDoor.Utf
namespace Go.Proofs.YtiooacmplmcphaaGreatDoor.Plug
open RowKit YtiooacmplmcphaaGreatDoor YtiooacmplmcphaaGreatDoor.PX YtiooacmplmcphaaGreatDoor.Utf YtiooacmplmcphaaGreatDoorW.PrintWords YtiooacmplmcphaaGreatDoorW.PrintLast
def encB : List Int → List UInt8 → List UInt8 × Int
 | [], acc => (acc, 0)
 | n :: r, acc => if sgn n = true then encB r (acc ++ enc n) else ([], 8)
theorem rd_at (l : List Int) (i : Nat) (h : i < l.length) : rd l (i : Int) = l[i] := by
  unfold rd; rw [Int.toNat_natCast, List.getD_eq_getElem?_getD, List.getElem?_eq_getElem h]; rfl
theorem enc_cells (n : Int) : Lib.byteCells (enc n) = Lib.runeCells n := Lib.byteCells_encodeRune n
def utf_Encode.f (a0 : List Int) : Option (ByteArray × Int) := if 4 * a0.length ≤ 140737488351232 then some (⟨(encB a0 []).1.toArray⟩, (encB a0 []).2) else none
set_option maxHeartbeats 2000000 in
theorem utf_Encode.calls (A0 : Option Addr) (c0 : Nat) (l0 : List Int) (r1 : ByteArray) (r2 : Int) (w : World) (hr0 : Kd.C (Kd.int .i64) w A0 l0.length l0) (_hc0 : l0.length ≤ c0) (_hG : Glob.G w) (h : utf_Encode.f l0 = some (r1, r2)) :
  Calls Tryz.prog 190 #[.slice A0 l0.length c0] w fun e w' => e = .returned (.tuple #[.string r1, .int .i64 r2]) ∧ Below w.heap.size w w' := by
 unfold utf_Encode.f at h
 by_cases hs : 4 * l0.length ≤ 140737488351232
 rotate_left
 · rw [if_neg hs] at h; cases h
 rw [if_pos hs] at h
 obtain ⟨rfl, rfl⟩ := Prod.mk.inj (Option.some.inj h)
 clear h
 go_enter Tryz.func190, Tryz.ntmps190
 go_wp2
 go_loopw [9] (fun v9 wr => ∃ (i : Nat) (acc : List UInt8), v9 = .int .i64 i ∧ i ≤ l0.length ∧ acc.length ≤ 4 * i ∧ Hid (encB (l0.drop i) acc = encB l0 []) ∧ Lib.IsBuilderF 106 5 w.heap.size w.heap.size (Lib.byteCells acc) wr ∧ Below w.heap.size w wr) (fun v9 _ => l0.length - (intOf v9).toNat)
 case atStart => exact ⟨0, [], rfl, by omega, by simp, Lib.hid rfl, Lib.IsBuilderF.of (Lib.fresh_isBuilder 106 5 w), (Below.refl _ w).alloc (Nat.le_refl _) _⟩
 case round =>
  obtain ⟨i, acc, rfl, hi, hal, hst, hI, hb⟩ := hrel
  by_cases hlt : i < l0.length
  rotate_left
  ·
   have hc : decide ((i : Int) < (l0.length : Int)) = false := by simp; omega
   have hst2 := hst.out
   rw [List.drop_of_length_le (by omega)] at hst2
   have HN : Hid ((acc, (0 : Int)) = encB l0 []) := Lib.hid hst2
   clear hst hst2
   go_wp2_with (go_at_call 56; refine (Bld.got _ _ _ acc _ hI hb.size).mono ?_; rintro e w2 ⟨rfl, b1⟩)
   go_ret2
   exact ⟨by rw [← HN.out]; rfl, hb.trans b1⟩
  have hdrop : l0.drop i = l0[i] :: l0.drop (i + 1) := List.drop_eq_getElem_cons hlt
  have hst2 := hst.out
  rw [hdrop] at hst2
  have hc : decide ((i : Int) < (l0.length : Int)) = true := by simp; omega
  obtain ⟨ad, rfl, hx⟩ := Kd.at_int hr0 (i : Int) (by omega) (by omega)
  rw [rd_at l0 i hlt, Int.toNat_natCast] at hx
  replace hx := (hb.cell (World.block_lt_of_cell? w _ hx)).trans hx
  have p1 : (0 ≤ (i : Int)) = True := eq_true (by omega)
  have p2 : ((i : Int) < (l0.length : Int)) = True := eq_true (by omega)
  generalize l0[i] = x at *
  by_cases hsg : sgn x = true
  rotate_left
  ·
   rw [show encB (x :: l0.drop (i + 1)) acc = ([], 8) by rw [encB, if_neg hsg]] at hst2
   have HN := Lib.hid hst2
   have hns : ¬ (0 ≤ x ∧ x ≤ 1114111 ∧ (x < 55296 ∨ 57343 < x)) := fun e => hsg ((sgn_iff x).2 e)
   clear hst hst2 hdrop hsg
   by_cases z0 : x < 0
   ·
    clear hns
    go_wp2_with (fail)
    go_ret2
    exact ⟨by rw [← HN.out]; rfl, hb⟩
   by_cases z1 : 1114111 < x
   ·
    clear hns
    go_wp2_with (fail)
    go_ret2
    exact ⟨by rw [← HN.out]; rfl, hb⟩
   have hv : Lib.validRune x = false := by unfold Lib.validRune; rw [decide_eq_false_iff_not]; omega
   clear hns
   go_wp2_with (first | (go_at_call 193; refine (Tryz.utf8_ValidRune _ _).mono ?_; rw [hv]; rintro e w1 ⟨rfl, rfl⟩))
   go_ret2
   exact ⟨by rw [← HN.out]; rfl, hb⟩
  have hq := (sgn_iff x).1 hsg
  have hel := enc_len x
  rw [show encB (x :: l0.drop (i + 1)) acc = encB (l0.drop (i + 1)) (acc ++ enc x) by rw [encB, if_pos hsg]] at hst2
  have HN := Lib.hid hst2
  have HQ := Lib.hid hq
  obtain ⟨q0, q1, q2⟩ := hq
  have hv : Lib.validRune x = true := by unfold Lib.validRune; rw [decide_eq_true_iff]; omega
  clear hst hst2 hdrop hsg q2
  go_wp2_with (first | (go_at_call 193; refine (Tryz.utf8_ValidRune _ _).mono ?_; rw [hv]; rintro e w1 ⟨rfl, rfl⟩) | (go_at_call 146; refine (Bld.sign 106 Bld.lies_plain w.heap.size w.heap.size _ x HQ.out _ hI (by rw [Lib.byteCells_length]; omega) hb.size).mono ?_; rintro e w2 ⟨rfl, h1, b1, k1⟩))
  go_roundw
  case rel => exact ⟨i + 1, acc ++ enc x, by go_num, by omega, by rw [List.length_append]; omega, Lib.hid HN.out, by rw [Lib.byteCells_append, enc_cells]; exact Or.inr h1, hb.trans b1⟩
  case measure => simp [intOf]; omega
end Go.Proofs.YtiooacmplmcphaaGreatDoor.Plug
namespace Go.Proofs.YtiooacmplmcphaaGreatDoor.Utf
def hexAll (l : List UInt8) : Bool := l.all fun c => decide (0 ≤ hexv c.toNat)
def hexNum (l : List UInt8) (a : Int) : Int := l.foldl (fun a c => a * 16 + hexv c.toNat) a
theorem hexv_lt (c : Nat) : hexv c < 16 := by unfold hexv; split <;> (try split) <;> (try split) <;> omega
theorem digs_take : ∀ (m : Nat) (l : List UInt8) (a : Int), digs m l a = if hexAll (l.take m) = true then (if l.length < m then (0, 4) else (hexNum (l.take m) a, 0)) else (0, 3)
 | 0, l, a => by simp [digs, hexAll, hexNum]
 | m + 1, [], a => by simp [digs, hexAll]
 | m + 1, c :: t, a => by
  rw [digs, List.take_succ_cons]
  by_cases h : hexv c.toNat < 0
  ·
   rw [if_pos h, if_neg]
   unfold hexAll; rw [List.all_cons, decide_eq_false (by omega)]; simp
  rw [if_neg h, digs_take m t]
  have e : hexAll (c :: t.take m) = hexAll (t.take m) := by
   unfold hexAll; rw [List.all_cons, decide_eq_true (by omega), Bool.true_and]
  rw [e]
  by_cases d : t.length < m
  · rw [if_pos d, if_pos (show (c :: t).length < m + 1 by simp; omega)]
  rw [if_neg d, if_neg (show ¬ (c :: t).length < m + 1 by simp; omega)]; rfl
def hexSet : List UInt8 := [48, 49, 50, 51, 52, 53, 54, 55, 56, 57, 97, 98, 99, 100, 101, 102, 65, 66, 67, 68, 69, 70]
set_option maxRecDepth 100000 in
theorem set_nat : ∀ n : Fin 256, hexSet.contains (UInt8.ofNat n.val) = decide (0 ≤ hexv n.val) := by decide +kernel
theorem set_hex (c : UInt8) : hexSet.contains c = decide (0 ≤ hexv c.toNat) := by
 have := set_nat ⟨c.toNat, c.toNat_lt⟩
 simp only [UInt8.ofNat_toNat] at this
 exact this
theorem dw_nil (p : UInt8 → Bool) : ∀ l : List UInt8, l.dropWhile p = [] ↔ ∀ x ∈ l, p x = true
 | [] => by simp
 | c :: t => by
  have ih := dw_nil p t
  cases h : p c with
  | true => simp [List.dropWhile, h, ih]
  | false => simp [List.dropWhile, h]
theorem tw_all (p : UInt8 → Bool) : ∀ l : List UInt8, ∀ x ∈ l.takeWhile p, p x = true
 | [], x, h => by simp at h
 | c :: t, x, h => by
  cases hc : p c with
  | true =>
   rw [List.takeWhile_cons, hc, if_pos rfl] at h
   rcases List.mem_cons.1 h with rfl | h
   · exact hc
   · exact tw_all p t x h
  | false => rw [List.takeWhile_cons, hc, if_neg (by decide)] at h; simp at h
theorem trim_none (l cs : List UInt8) : Lib.trimS l cs = [] ↔ ∀ x ∈ l, cs.contains x = true := by
 unfold Lib.trimS Lib.trimLeftS Lib.trimRightS
 rw [dw_nil]
 constructor
 ·
  intro h x hx
  have hx2 : x ∈ l.reverse := by simpa using hx
  rw [← List.takeWhile_append_dropWhile (p := (cs.contains ·)) (l := l.reverse), List.mem_append] at hx2
  rcases hx2 with hx2 | hx2
  · exact tw_all _ _ x hx2
  · exact h x (by simpa using hx2)
 ·
  intro h x hx
  rw [List.mem_reverse] at hx
  have := (List.dropWhile_sublist (l := l.reverse) (cs.contains ·)).subset hx
  exact h x (by simpa using this)
theorem trim_hex (l : List UInt8) : Lib.trimS l hexSet = [] ↔ hexAll l = true := by
 rw [trim_none]; unfold hexAll; rw [List.all_eq_true]
 constructor
 · intro h x hx; rw [← set_hex]; exact h x hx
 · intro h x hx; rw [set_hex]; exact h x hx
theorem num_range : ∀ (l : List UInt8) (a : Int), hexAll l = true → 0 ≤ a → 0 ≤ hexNum l a ∧ hexNum l a < (a + 1) * 16 ^ l.length
 | [], a, _, h => by simp [hexNum, h]; omega
 | c :: t, a, h, h0 => by
  unfold hexAll at h
  rw [List.all_cons, Bool.and_eq_true] at h
  have hc := of_decide_eq_true h.1
  have h15 := hexv_lt c.toNat
  obtain ⟨i1, i2⟩ := num_range t (a * 16 + hexv c.toNat) h.2 (by omega)
  refine ⟨i1, Int.lt_of_lt_of_le i2 ?_⟩
  rw [List.length_cons, Int.pow_succ, show (a + 1) * (16 ^ t.length * 16) = (a + 1) * 16 * 16 ^ t.length by rw [Int.mul_comm (16 ^ t.length) 16, Int.mul_assoc]]
  exact Int.mul_le_mul_of_nonneg_right (by omega) (Int.pow_nonneg (by omega))
end Go.Proofs.YtiooacmplmcphaaGreatDoor.Utf
namespace Go.Proofs.YtiooacmplmcphaaGreatDoor.Plug
open RowKit YtiooacmplmcphaaGreatDoor YtiooacmplmcphaaGreatDoor.Utf YtiooacmplmcphaaGreatDoorW.PrintWords YtiooacmplmcphaaGreatDoorW.PrintLast
theorem lower_fact : ∀ c : Fin 256, bits .or .u8 (c.val : Int) 32 = if c.val / 32 % 2 = 1 then (c.val : Int) else (c.val : Int) + 32 := by decide +kernel
theorem lower_up (c : Nat) (h : 65 ≤ c ∧ c ≤ 70) : bits .or .u8 (c : Int) 32 = ((c + 32 : Nat) : Int) := by
 have := lower_fact ⟨c, by omega⟩
 simp only at this
 rw [this, if_neg (by omega)]; omega
theorem lower_low (c : Nat) (h : 97 ≤ c ∧ c ≤ 102) : bits .or .u8 (c : Int) 32 = (c : Int) := by
 have := lower_fact ⟨c, by omega⟩
 simp only at this
 rw [this, if_pos (by omega)]
theorem pow16 : ∀ k : Fin 8, (16 : Int) ^ k.val ≤ 268435456 := by decide
theorem hexv_kind (c : Nat) (h : 0 ≤ hexv c) : (48 ≤ c ∧ c ≤ 57 ∧ hexv c = (c : Int) - 48) ∨ (97 ≤ c ∧ c ≤ 102 ∧ hexv c = (c : Int) - 87) ∨ (65 ≤ c ∧ c ≤ 70 ∧ hexv c = (c : Int) - 55) := by
 unfold hexv at h ⊢
 by_cases a : 48 ≤ c ∧ c ≤ 57
 · rw [if_pos a]; exact .inl ⟨a.1, a.2, rfl⟩
 by_cases b : 97 ≤ c ∧ c ≤ 102
 · rw [if_neg a, if_pos b]; exact .inr (.inl ⟨b.1, b.2, rfl⟩)
 by_cases d : 65 ≤ c ∧ c ≤ 70
 rotate_left
 · rw [if_neg a, if_neg b, if_neg d] at h; omega
 rw [if_neg a, if_neg b, if_pos d]; exact .inr (.inr ⟨d.1, d.2, rfl⟩)
theorem lower_is (c : Int) (w : World) : Calls Tryz.prog 208 #[.int .u8 c] w fun e w' => e = .returned (.int .u8 (bits .or .u8 c 32)) ∧ w' = w := by
 go_enter Tryz.func208, Tryz.ntmps208
 go_wp2
 go_ret
 exact ⟨rfl, rfl⟩
set_option maxHeartbeats 32000000 in
set_option maxRecDepth 100000 in
theorem parse_in (t : ByteArray) (h0 : 0 < t.size) (h8 : t.size ≤ 8) (hx : hexAll t.data.toList = true) (w : World) :
  Calls Tryz.prog 201 #[.string t, .int .i64 16, .int .i64 64] w fun e w' => e = .returned (.tuple #[.int .u64 (hexNum t.data.toList 0), .nilIface]) ∧ Below w.heap.size w w' := by
 have hemp : t.toList.isEmpty = false := by
  rw [← decide_eq_emptyBytes]
  exact decide_eq_false (fun h => by rw [h] at h0; exact absurd h0 (by decide))
 have hcv := Lib.run_convert_string_bytes (P := Tryz.prog) w 9 104 5 t (u := .string) (by kernel_rfl) (by kernel_rfl) (by kernel_rfl)
 have hB : ∀ j, j < t.size → (Lib.bytesWorld w 5 t).cell? ⟨w.heap.size, j, none⟩ = some (.int .u8 (t.data.toList.getD j 0).toNat) := fun j hj => Lib.bytesWorld_cell w 5 t j hj
 have HBel := Lib.hid (Lib.bytesWorld_below w 5 t)
 obtain ⟨W1, hW1⟩ : ∃ W1, W1 = Lib.bytesWorld w 5 t := ⟨_, rfl⟩
 rw [← hW1] at hcv hB HBel
 clear hW1
 obtain ⟨bs, hL⟩ : ∃ bs, bs = t.data.toList := ⟨_, rfl⟩
 have hLn : bs.length = t.size := by rw [hL, Array.length_toList]; rfl
 rw [← hL] at hB hx ⊢
 clear hL
 have hmv : IntKind.u64.wrap (IntKind.u64.wrap 18446744073709551616 - 1) = 18446744073709551615 := by
  rw [IntKind.wrap_u64, IntKind.wrap_u64]
  decide
 have HX := Lib.hid hx
 clear hx
 go_enter Tryz.func201, Tryz.ntmps201
 go_wp2
 go_loop [12, 13, 101] (fun vu vn vi => ∃ (k : Nat) (a : Int), vu = .bool false ∧ vn = .int .u64 a ∧ vi = .int .i64 k ∧ k ≤ t.size ∧ Hid (0 ≤ a ∧ a < 16 ^ k ∧ hexNum (bs.drop k) a = hexNum bs 0))
  (fun _ _ vi => t.size - (intOf vi).toNat)
 case atStart => exact ⟨0, 0, rfl, rfl, rfl, by omega, Lib.hid ⟨by omega, by simp, rfl⟩⟩
 case round =>
  obtain ⟨k, a, rfl, rfl, rfl, hk, hh⟩ := hrel
  by_cases hkn : k < t.size
  rotate_left
  ·
   have hkk : k = t.size := by omega
   subst hkk
   have hF := hh.out.2.2
   rw [List.drop_eq_nil_of_le (by omega)] at hF
   clear hh hB HX
   obtain rfl : a = hexNum bs 0 := hF
   go_wp2
   go_ret2
   exact ⟨rfl, HBel.out⟩
  have hc := hB k hkn
  have hdrop : bs.drop k = bs[k]'(by omega) :: bs.drop (k + 1) := List.drop_eq_getElem_cons (by omega)
  have hget : bs.getD k 0 = bs[k]'(by omega) := by simp [List.getD, List.getElem?_eq_getElem (show k < bs.length by omega)]
  have hmem : bs[k]'(by omega) ∈ bs := List.getElem_mem _
  rw [hget] at hc
  generalize bs[k]'(by omega) = c at hc hdrop hmem
  have hxc : 0 ≤ hexv c.toNat := of_decide_eq_true (List.all_eq_true.1 HX.out c hmem)
  obtain ⟨a0, a1, hnum⟩ := hh.out
  have hp := pow16 ⟨k, by omega⟩
  have a2 : a < 268435456 := by simp only at hp; omega
  rw [hdrop] at hnum
  have hnum2 : hexNum (bs.drop (k + 1)) (a * 16 + hexv c.toNat) = hexNum bs 0 := hnum
  have h15 := hexv_lt c.toNat
  have HN : Hid (0 ≤ a * 16 + hexv c.toNat ∧ a * 16 + hexv c.toNat < 16 ^ (k + 1) ∧ hexNum (bs.drop (k + 1)) (a * 16 + hexv c.toNat) = hexNum bs 0) := by
   refine Lib.hid ⟨by omega, ?_, hnum2⟩
   rw [Int.pow_succ]; omega
  clear hh hB hdrop hget hmem hnum hnum2 hp a1 HX HBel
  rcases hexv_kind c.toNat hxc with ⟨d0, d1, d2⟩ | ⟨d0, d1, d2⟩ | ⟨d0, d1, d2⟩
  ·
   rw [d2] at HN
   clear d2 hxc h15
   generalize c.toNat = x at *
   go_wp2
   refine ⟨⟨k + 1, a * 16 + ((x : Int) - 48), rfl, (by first | rfl | (congr 1; omega)), (by first | rfl | (congr 1; omega)), by omega, HN⟩, by simp [intOf]; omega⟩
  ·
   rw [d2] at HN
   have hlow := lower_low c.toNat ⟨d0, d1⟩
   clear d2 hxc h15
   generalize c.toNat = x at *
   go_wp2_with (go_at_call 208; refine (lower_is _ _).mono ?_; rintro e w' ⟨rfl, rfl⟩; rw [hlow])
   refine ⟨⟨k + 1, a * 16 + ((x : Int) - 87), rfl, (by first | rfl | (congr 1; omega)), (by first | rfl | (congr 1; omega)), by omega, HN⟩, by simp [intOf]; omega⟩
  ·
   rw [d2] at HN
   have hlow := lower_up c.toNat ⟨d0, d1⟩
   clear d2 hxc h15
   generalize c.toNat = x at *
   go_wp2_with (go_at_call 208; refine (lower_is _ _).mono ?_; rintro e w' ⟨rfl, rfl⟩; rw [hlow])
   refine ⟨⟨k + 1, a * 16 + ((x : Int) - 55), rfl, (by first | rfl | (congr 1; omega)), (by first | rfl | (congr 1; omega)), by omega, HN⟩, by simp [intOf]; omega⟩
set_option maxHeartbeats 4000000 in
theorem parse_out (t : ByteArray) (h0 : 0 < t.size) (h8 : t.size ≤ 8) (hx : hexAll t.data.toList = true) (w : World) :
  Calls Tryz.prog 204 #[.string t, .int .i64 16, .int .i64 64] w fun e w' => e = .returned (.tuple #[.int .u64 (hexNum t.data.toList 0), .nilIface]) ∧ Below w.heap.size w w' := by
 have HP := Lib.hid (parse_in t h0 h8 hx w)
 clear hx h0 h8
 generalize hexNum t.data.toList 0 = n at *
 go_enter Tryz.func204, Tryz.ntmps204
 go_wp2_with (go_at_call 201; refine HP.out.mono ?_; rintro e w' ⟨rfl, hb⟩)
 go_ret2
 exact ⟨rfl, hb⟩
def strconv_ParseUint.f (a0 : ByteArray) (a1 a2 : Int) : Option (Int × Option Int) :=
  if 0 < a0.size ∧ a0.size ≤ 8 ∧ hexAll a0.data.toList = true ∧ a1 = 16 ∧ a2 = 64 then some (hexNum a0.data.toList 0, none) else none
theorem strconv_ParseUint.calls (a0 : ByteArray) (a1 a2 : Int) (r1 : Int) (r2 : Option Int) (w : World) (_hG : Glob.G w) (h : strconv_ParseUint.f a0 a1 a2 = some (r1, r2)) :
  Calls Tryz.prog 204 #[.string a0, .int .i64 a1, .int .i64 a2] w fun e w' => e = .returned (.tuple #[.int .u64 r1, .nilIface]) ∧ Below w.heap.size w w' := by
 unfold strconv_ParseUint.f at h
 by_cases c : 0 < a0.size ∧ a0.size ≤ 8 ∧ hexAll a0.data.toList = true ∧ a1 = 16 ∧ a2 = 64
 rotate_left
 · rw [if_neg c] at h; cases h
 rw [if_pos c] at h
 obtain ⟨c1, c2, c3, rfl, rfl⟩ := c
 obtain ⟨rfl, rfl⟩ := Prod.mk.inj (Option.some.inj h)
 exact parse_out a0 c1 c2 c3 w
end Go.Proofs.YtiooacmplmcphaaGreatDoor.Plug
namespace Go.Proofs.YtiooacmplmcphaaGreatDoor.Utf
theorem digs_len : ∀ (m : Nat) (l : List UInt8) (a : Int), (digs m l a).2 = 0 → m ≤ l.length
 | 0, _, _, _ => Nat.zero_le _
 | m + 1, [], _, h => by simp [digs] at h
 | m + 1, c :: t, a, h => by
  unfold digs at h
  by_cases hc : hexv c.toNat < 0
  · rw [if_pos hc] at h; simp at h
  rw [if_neg hc] at h; have := digs_len m t _ h; simp; omega
theorem hexE_ok (l : List UInt8) (m : Nat) (h : (hexE l m).2.2 = 0) : sgn (hexE l m).1 = true ∧ (hexE l m).2.1 = 2 + m ∧ (2 ≤ l.length → 2 + m ≤ l.length) := by
 unfold hexE at h ⊢
 by_cases c : (digs m (l.drop 2) 0).2 = 0
 rotate_left
 · rw [if_pos c] at h; exact absurd h c
 rw [if_neg (by simpa using c)] at h ⊢
 by_cases d : sgn (digs m (l.drop 2) 0).1 = true
 rotate_left
 · rw [if_neg d] at h; cases h
 rw [if_pos d]
 have := digs_len m _ _ c
 rw [List.length_drop] at this
 exact ⟨d, rfl, fun _ => by omega⟩
theorem escB_ok (l : List UInt8) (h : (escB l).2.2 = 0) : sgn (escB l).1 = true ∧ 2 ≤ (escB l).2.1 ∧ (escB l).2.1 ≤ l.length := by
 unfold escB at h ⊢
 by_cases c : l.length < 2
 · rw [if_pos c] at h; cases h
 rw [if_neg c] at h ⊢
 by_cases c1 : at_ l 1 = 34 ∨ at_ l 1 = 92
 ·
  rw [if_pos c1]; refine ⟨?_, by simp, by simp; omega⟩
  rw [sgn_iff]; dsimp only; omega
 rw [if_neg c1] at h ⊢
 by_cases c2 : at_ l 1 = 110
 · rw [if_pos c2]; exact ⟨rfl, by simp, by simp; omega⟩
 rw [if_neg c2] at h ⊢
 by_cases c3 : at_ l 1 = 116
 · rw [if_pos c3]; exact ⟨rfl, by simp, by simp; omega⟩
 rw [if_neg c3] at h ⊢
 by_cases c4 : at_ l 1 = 114
 · rw [if_pos c4]; exact ⟨rfl, by simp, by simp; omega⟩
 rw [if_neg c4] at h ⊢
 by_cases c5 : at_ l 1 = 48
 · rw [if_pos c5]; exact ⟨rfl, by simp, by simp; omega⟩
 rw [if_neg c5] at h ⊢
 by_cases c6 : at_ l 1 = 120
 · rw [if_pos c6] at h ⊢; obtain ⟨a, b, d⟩ := hexE_ok l 2 h; exact ⟨a, by omega, by omega⟩
 rw [if_neg c6] at h ⊢
 by_cases c7 : at_ l 1 = 117
 · rw [if_pos c7] at h ⊢; obtain ⟨a, b, d⟩ := hexE_ok l 4 h; exact ⟨a, by omega, by omega⟩
 rw [if_neg c7] at h ⊢
 by_cases c8 : at_ l 1 = 85
 · rw [if_pos c8] at h ⊢; obtain ⟨a, b, d⟩ := hexE_ok l 8 h; exact ⟨a, by omega, by omega⟩
 rw [if_neg c8] at h; cases h
theorem oneB_ok (l : List UInt8) (q : Nat) (hl : l ≠ []) (h : (oneB l q).2.2 = 0) (h0 : (oneB l q).2.1 ≠ 0) : (oneB l q).2.1 ≤ l.length ∧ ∃ z, sgn z = true ∧ (oneB l q).1 = enc z := by
 unfold oneB at h h0 ⊢
 by_cases c : at_ l 0 = q
 ·
  rw [if_pos c] at h h0 ⊢
  by_cases c1 : q = 39 ∧ 1 < l.length ∧ at_ l 1 = 39
  rotate_left
  · rw [if_neg c1] at h0; exact absurd rfl h0
  rw [if_pos c1]; exact ⟨by dsimp only; omega, 39, rfl, rfl⟩
 rw [if_neg c] at h h0 ⊢
 by_cases d : q = 34 ∧ at_ l 0 = 92
 ·
  rw [if_pos d] at h h0 ⊢
  by_cases e : (escB l).2.2 = 0
  rotate_left
  · rw [if_pos e] at h; exact absurd h e
  rw [if_neg (by simpa using e)]
  obtain ⟨a1, a2, a3⟩ := escB_ok l e
  exact ⟨a3, _, a1, rfl⟩
 rw [if_neg d] at h h0 ⊢
 by_cases e : may (dec l).1 = true
 rotate_left
 · rw [if_neg e] at h; cases h
 rw [if_pos e]
 have hs := may_sgn e
 obtain ⟨b1, b2, b3, b4⟩ := enc_dec l (sgn_nat hs).1
 refine ⟨(dec_len l hl).2, _, hs, ?_⟩
 dsimp only
 rw [b3]
 have b5 := congrArg (List.take (enc (dec l).1).length) b4
 rw [List.take_left] at b5
 exact b5.symm
theorem readF_means : ∀ (k : Nat) (l : List UInt8) (q i : Nat) (acc : List UInt8) (t : List UInt8) (n p : Nat) (_ : readF k l q i acc = (t, n, 0, p)) (_ : ∃ zs : List Int, (∀ z ∈ zs, sgn z = true) ∧ acc = zs.flatMap enc),
    p = 0 ∧ (∃ zs : List Int, (∀ z ∈ zs, sgn z = true) ∧ t = zs.flatMap enc) ∧ i + 1 ≤ n ∧ n ≤ i + l.length
  | 0, l, q, i, acc, t, n, p, h, _ => by simp [readF] at h
  | k + 1, l, q, i, acc, t, n, p, h, ⟨zs, hz, ha⟩ => by
    unfold readF at h
    by_cases c : l = []
    · rw [if_pos c] at h; simp at h
    rw [if_neg c] at h
    by_cases c1 : (oneB l q).2.2 = 4
    · rw [if_pos c1] at h; simp at h
    rw [if_neg c1] at h
    by_cases c2 : (oneB l q).2.2 = 0
    · rw [if_neg (by simpa using c2)] at h
      have hl : 0 < l.length := List.length_pos_iff.2 c
      by_cases c3 : (oneB l q).2.1 = 0
      · rw [if_pos c3] at h
        simp only [Prod.mk.injEq] at h
        exact ⟨by omega, ⟨zs, hz, by rw [← h.1, ha]⟩, by omega, by omega⟩
      · rw [if_neg c3] at h
        obtain ⟨b1, z, b2, b3⟩ := oneB_ok l q c c2 c3
        obtain ⟨d1, d2, d3, d4⟩ := readF_means k _ q _ _ t n p h ⟨zs ++ [z], by
          intro x hx; rcases List.mem_append.1 hx with hx | hx
          · exact hz x hx
          · rw [List.mem_singleton] at hx; rw [hx]; exact b2, by rw [ha, b3, List.flatMap_append]; simp⟩
        rw [List.length_drop] at d4
        exact ⟨d1, d2, by omega, by omega⟩
    · rw [if_pos c2] at h; simp only [Prod.mk.injEq] at h; exact absurd h.2.2.1 c2
theorem readF_no : ∀ (k : Nat) (l : List UInt8) (q i : Nat) (acc : List UInt8), (readF k l q i acc).2.2.1 ≠ 0 → (readF k l q i acc).1 = [] ∧ (readF k l q i acc).2.1 = 0
 | 0, _, _, _, _, _ => ⟨rfl, rfl⟩
 | k + 1, l, q, i, acc, h => by
  unfold readF at h ⊢
  by_cases c : l = []
  · rw [if_pos c]; exact ⟨rfl, rfl⟩
  rw [if_neg c] at h ⊢
  by_cases c1 : (oneB l q).2.2 = 4
  · rw [if_pos c1]; exact ⟨rfl, rfl⟩
  rw [if_neg c1] at h ⊢
  by_cases c2 : (oneB l q).2.2 = 0
  rotate_left
  · rw [if_pos c2]; exact ⟨rfl, rfl⟩
  rw [if_neg (by simpa using c2)] at h ⊢
  by_cases c3 : (oneB l q).2.1 = 0
  · rw [if_pos c3] at h; exact absurd rfl h
  rw [if_neg c3] at h ⊢; exact readF_no k _ _ _ _ h
theorem readB_no (s : List UInt8) (h : (readB s).2.2.1 ≠ 0) : (readB s).1 = [] ∧ (readB s).2.1 = 0 := by
 unfold readB at h ⊢
 split
 · exact ⟨rfl, rfl⟩
 · rename_i c; rw [if_neg c] at h; exact readF_no _ _ _ _ _ h
theorem readB_means (s t : List UInt8) (n p : Nat) (h : readB s = (t, n, 0, p)) : p = 0 ∧ (∃ zs : List Int, (∀ z ∈ zs, sgn z = true) ∧ t = zs.flatMap enc) ∧ 2 ≤ n ∧ n ≤ s.length := by
 unfold readB at h
 by_cases c : s = [] ∨ (at_ s 0 ≠ 39 ∧ at_ s 0 ≠ 34)
 · rw [if_pos c] at h; simp at h
 rw [if_neg c] at h
 have hs : 0 < s.length := List.length_pos_iff.2 (fun e => c (.inl e))
 obtain ⟨a, b, d, e⟩ := readF_means _ _ _ _ _ t n p h ⟨[], by simp, rfl⟩
 rw [List.length_drop] at e
 exact ⟨a, b, by omega, by omega⟩
theorem readF_nil (k q i : Nat) (acc : List UInt8) : readF k [] q i acc = ([], 0, 4, i) := by
  cases k <;> simp [readF]
end Go.Proofs.YtiooacmplmcphaaGreatDoor.Utf
namespace Go.Proofs.YtiooacmplmcphaaGreatDoor.Plug
open RowKit YtiooacmplmcphaaGreatDoor YtiooacmplmcphaaGreatDoor.PX YtiooacmplmcphaaGreatDoor.Utf YtiooacmplmcphaaGreatDoorW.PrintWords YtiooacmplmcphaaGreatDoorW.PrintLast YtiooacmplmcphaaGreatDoorW.PrintMore
attribute [local go_sem] min2_int min_two
theorem enc_one (n : Int) : utf_Encode.f [n] = some (if sgn n = true then (⟨(enc n).toArray⟩, 0) else (⟨#[]⟩, 8)) := by
 unfold utf_Encode.f
 rw [if_pos (by simp)]
 unfold encB
 by_cases h : sgn n = true
 rotate_left
 · rw [if_neg h, if_neg h]
 rw [if_pos h, if_pos h]; rfl
theorem extract_list (s : ByteArray) (i j : Nat) : (s.extract i j).data.toList = (s.data.toList.drop i).take (j - i) := by
  rw [Lib.extract_data]
theorem one_row (n : Int) (w : World) : Kd.C (Kd.int .i64) (w.alloc (.cells #[.int .i64 n] 3)) (some ⟨w.heap.size, 0, none⟩) ([n] : List Int).length [n] := by
 have h := World.ownsRow_lit (base := 0) (e := 3) (size := 1) w #[.int .i64 n] 1 (Nat.zero_le _) (by decide) rfl
 exact (Kd.R_reads' (Kd.R_of_own (enc := Value.int .i64) (h1 := fun _ => rfl) (xs := [n]) (ok := fun _ => True) h (fun _ _ => trivial))).2.2
set_option maxHeartbeats 1600000 in
set_option maxRecDepth 100000 in
theorem esc_hex (s : ByteArray) (w : World) (hG : Glob.G w) (hs : s.size ≤ 140737488351232) (h2 : 2 ≤ s.size) (m N2 : Nat) (C M2 M0 : Int) (hcm : (m = 2 ∧ N2 = 4 ∧ C = 120 ∧ M2 = 4 ∧ M0 = 2) ∨ (m = 4 ∧ N2 = 6 ∧ C = 117 ∧ M2 = 6 ∧ M0 = 4) ∨ (m = 8 ∧ N2 = 10 ∧ C = 85 ∧ M2 = 10 ∧ M0 = 8)) (hx : ∀ h : 1 < s.size, ((s[1]'h).toNat : Int) = C) :
  Calls Tryz.prog 189 #[.string s] w fun e w' => e = .returned (.tuple #[.int .i64 (hexE s.data.toList m).1, .int .i64 ((hexE s.data.toList m).2.1 : Int), .int .i64 (hexE s.data.toList m).2.2]) ∧ Below w.heap.size w w' := by
 have hL := size_list s
 obtain ⟨e, he⟩ : ∃ e, e = min (2 + m) s.size := ⟨_, rfl⟩
 have hD : (s.extract 2 e).data.toList = (s.data.toList.drop 2).take m := by
  rw [extract_list, he]
  by_cases c : 2 + m ≤ s.size
  · rw [show min (2 + m) s.size - 2 = m by omega]
  rw [show min (2 + m) s.size - 2 = s.size - 2 by omega, List.take_of_length_le (by rw [List.length_drop]; omega), List.take_of_length_le (by rw [List.length_drop]; omega)]
 have hDs : (s.extract 2 e).size = min m (s.size - 2) := by
  rw [size_list, hD, List.length_take, List.length_drop, ← hL]
 have hmin : (if (s.size : Int) < M2 then (s.size : Int) else M2) = (e : Int) := by split <;> omega
 have e1 : 2 ≤ e := by omega
 have e2 : e ≤ s.size := by omega
 have i1 : ((2 : Int) ≤ (s.size : Int)) = True := eq_true (by omega)
 have i2 : ((2 : Int) ≤ (e : Int)) = True := eq_true (by omega)
 have i3 : ((e : Int) ≤ (s.size : Int)) = True := eq_true (by omega)
 have hT : strings_Trim.f (s.extract 2 e) (⟨#[48, 49, 50, 51, 52, 53, 54, 55, 56, 57, 97, 98, 99, 100, 101, 102, 65, 66, 67, 68, 69, 70]⟩ : ByteArray) = some ⟨(Lib.trimS (s.extract 2 e).data.toList hexSet).toArray⟩ := by
  unfold strings_Trim.f
  rw [if_pos ⟨by omega, by decide, by decide⟩]; rfl
 have hxh := trim_hex (s.extract 2 e).data.toList
 rw [hD] at hxh hT
 have hc2 : decide ((s.size : Int) < 2) = false := by simp; omega
 have hd := digs_take m (s.data.toList.drop 2) 0
 rw [List.length_drop, ← hL] at hd
 by_cases q : hexAll ((s.data.toList.drop 2).take m) = true
 rotate_left
 ·
  rw [if_neg q] at hd
  rw [show hexE s.data.toList m = (0, 0, 3) by unfold hexE; rw [hd]; rfl]
  clear hd
  have HT := Lib.hid hT
  have hne : ¬ Lib.trimS ((s.data.toList.drop 2).take m) hexSet = [] := fun e => q (hxh.1 e)
  have hem : (⟨(Lib.trimS ((s.data.toList.drop 2).take m) hexSet).toArray⟩ : ByteArray).toList.isEmpty = false := by
   rw [Lib.toList_data]; simpa using hne
  generalize (⟨(Lib.trimS ((s.data.toList.drop 2).take m) hexSet).toArray⟩ : ByteArray) = t at HT hem
  by_cases r : s.size - 2 < m
  ·
   obtain rfl : e = s.size := by omega
   clear hT hxh hD hDs hL q hne he hmin i2 i3
   rcases hcm with ⟨rfl, rfl, rfl, rfl, rfl⟩ | ⟨rfl, rfl, rfl, rfl, rfl⟩ | ⟨rfl, rfl, rfl, rfl, rfl⟩
   all_goals
    go_enter Tryz.func189, Tryz.ntmps189
    go_wp2_with (first | (go_at_call 84; refine (strings_Trim.calls _ _ _ _ hG HT.out).mono ?_; rintro e w1 ⟨rfl, hb1⟩))
    go_ret3
    exact ⟨rfl, hb1⟩
  have j3 : ((M2 : Int) ≤ (s.size : Int)) = True := eq_true (by omega)
  have j4 : N2 ≤ s.size := by omega
  obtain rfl : e = N2 := by omega
  clear hT hxh hD hDs hL q hne he hmin
  rcases hcm with ⟨rfl, rfl, rfl, rfl, rfl⟩ | ⟨rfl, rfl, rfl, rfl, rfl⟩ | ⟨rfl, rfl, rfl, rfl, rfl⟩
  all_goals
   go_enter Tryz.func189, Tryz.ntmps189
   go_wp2_with (first | (go_at_call 84; refine (strings_Trim.calls _ _ _ _ hG HT.out).mono ?_; rintro e w1 ⟨rfl, hb1⟩))
   go_ret3
   exact ⟨rfl, hb1⟩
 rw [if_pos q] at hd
 have HT := Lib.hid hT
 rw [hxh.2 q] at HT
 by_cases r : s.size - 2 < m
 ·
  rw [if_pos r] at hd
  rw [show hexE s.data.toList m = (0, 0, 4) by unfold hexE; rw [hd]; rfl]
  clear hd
  have hlt : decide (((s.size - 2 : Nat) : Int) < M0) = true := by simp; omega
  obtain rfl : e = s.size := by omega
  clear hT hxh hD hDs hL q he hmin i2 i3
  rcases hcm with ⟨rfl, rfl, rfl, rfl, rfl⟩ | ⟨rfl, rfl, rfl, rfl, rfl⟩ | ⟨rfl, rfl, rfl, rfl, rfl⟩
  all_goals
   go_enter Tryz.func189, Tryz.ntmps189
   go_wp2_with (first | (go_at_call 84; refine (strings_Trim.calls _ _ _ _ hG HT.out).mono ?_; rintro e w1 ⟨rfl, hb1⟩))
   go_ret3
   exact ⟨rfl, hb1⟩
 rw [if_neg r] at hd
 rw [show hexE s.data.toList m = if sgn (hexNum ((s.data.toList.drop 2).take m) 0) = true then (hexNum ((s.data.toList.drop 2).take m) 0, 2 + m, 0) else (0, 0, 3) by unfold hexE; rw [hd]; rfl]
 clear hd
 have j3 : ((M2 : Int) ≤ (s.size : Int)) = True := eq_true (by omega)
 have j4 : N2 ≤ s.size := by omega
 obtain rfl : e = N2 := by omega
 have hr := num_range ((s.data.toList.drop 2).take m) 0 q (by omega)
 rw [List.length_take, List.length_drop, ← hL, show min m (s.size - 2) = m by omega] at hr
 have hr2 : hexNum ((s.data.toList.drop 2).take m) 0 < 4294967296 := by
  rcases hcm with ⟨rfl, _⟩ | ⟨rfl, _⟩ | ⟨rfl, _⟩
  · have := hr.2; simp at this; omega
  · have := hr.2; simp at this; omega
  · have := hr.2; simp at this; omega
 have hr1 := hr.1
 have hP : strconv_ParseUint.f (s.extract 2 e) 16 64 = some (hexNum ((s.data.toList.drop 2).take m) 0, none) := by
  unfold strconv_ParseUint.f
  rw [if_pos ⟨by omega, by omega, by rw [hD]; exact q, rfl, rfl⟩, hD]
 have HP := Lib.hid hP
 have hE := enc_one (hexNum ((s.data.toList.drop 2).take m) 0)
 clear hT hxh hD hDs hL q hr hP he hmin
 obtain ⟨n, hn⟩ : ∃ n, n = hexNum ((s.data.toList.drop 2).take m) 0 := ⟨_, rfl⟩
 rw [← hn] at HP hE hr1 hr2 ⊢
 clear hn
 by_cases g : sgn n = true
 ·
  rw [if_pos g]
  rw [if_pos g] at hE
  have HE := Lib.hid hE
  clear hE g
  rcases hcm with ⟨rfl, rfl, rfl, rfl, rfl⟩ | ⟨rfl, rfl, rfl, rfl, rfl⟩ | ⟨rfl, rfl, rfl, rfl, rfl⟩
  all_goals
   go_enter Tryz.func189, Tryz.ntmps189
   go_wp2_with (first | (go_at_call 84; refine (strings_Trim.calls _ _ _ _ hG HT.out).mono ?_; rintro e w1 ⟨rfl, hb1⟩) | (go_at_call 204; refine (strconv_ParseUint.calls _ _ _ _ _ _ (hG.below hb1) HP.out).mono ?_; rintro e w2 ⟨rfl, hb2⟩) | (go_at_call 190; refine (utf_Encode.calls _ _ [n] _ _ _ (one_row n w2) (by simp) (hG.below ((hb1.trans (hb2.mono hb1.size)).alloc (Nat.le_trans hb1.size hb2.size) _)) HE.out).mono ?_; rintro e w3 ⟨rfl, hb3⟩))
   go_ret3
   exact ⟨rfl, ((hb1.trans (hb2.mono hb1.size)).alloc (Nat.le_trans hb1.size hb2.size) _).trans (hb3.mono (by have := hb1.size; have := hb2.size; simp; omega))⟩
 rw [if_neg g]
 rw [if_neg g] at hE
 have HE := Lib.hid hE
 clear hE g
 rcases hcm with ⟨rfl, rfl, rfl, rfl, rfl⟩ | ⟨rfl, rfl, rfl, rfl, rfl⟩ | ⟨rfl, rfl, rfl, rfl, rfl⟩
 all_goals
  go_enter Tryz.func189, Tryz.ntmps189
  go_wp2_with (first | (go_at_call 84; refine (strings_Trim.calls _ _ _ _ hG HT.out).mono ?_; rintro e w1 ⟨rfl, hb1⟩) | (go_at_call 204; refine (strconv_ParseUint.calls _ _ _ _ _ _ (hG.below hb1) HP.out).mono ?_; rintro e w2 ⟨rfl, hb2⟩) | (go_at_call 190; refine (utf_Encode.calls _ _ [n] _ _ _ (one_row n w2) (by simp) (hG.below ((hb1.trans (hb2.mono hb1.size)).alloc (Nat.le_trans hb1.size hb2.size) _)) HE.out).mono ?_; rintro e w3 ⟨rfl, hb3⟩))
  go_ret3
  exact ⟨rfl, ((hb1.trans (hb2.mono hb1.size)).alloc (Nat.le_trans hb1.size hb2.size) _).trans (hb3.mono (by have := hb1.size; have := hb2.size; simp; omega))⟩
def quote_escape.f (a0 : ByteArray) : Option (Int × Int × Int) := if a0.size ≤ 140737488351232 then some ((escB a0.data.toList).1, ((escB a0.data.toList).2.1 : Int), (escB a0.data.toList).2.2) else none
set_option maxHeartbeats 1600000 in
set_option maxRecDepth 100000 in
theorem quote_escape.calls (a0 : ByteArray) (r1 r2 r3 : Int) (w : World) (hG : Glob.G w) (h : quote_escape.f a0 = some (r1, r2, r3)) :
  Calls Tryz.prog 189 #[.string a0] w fun e w' => e = .returned (.tuple #[.int .i64 r1, .int .i64 r2, .int .i64 r3]) ∧ Below w.heap.size w w' := by
 unfold quote_escape.f at h
 by_cases hs : a0.size ≤ 140737488351232
 rotate_left
 · rw [if_neg hs] at h; cases h
 rw [if_pos hs] at h
 simp only [Option.some.injEq, Prod.mk.injEq] at h
 obtain ⟨rfl, rfl, rfl⟩ := h
 have hL := size_list a0
 have hlt := at_lt a0.data.toList 1
 have hx : ∀ h : 1 < a0.size, ((a0[1]'h).toNat : Int) = (at_ a0.data.toList 1 : Int) := fun h => by rw [← bt_at_]; exact bt_at a0 1 h
 have hE : escB a0.data.toList = if a0.size < 2 then (0, 0, 4) else
  if at_ a0.data.toList 1 = 34 ∨ at_ a0.data.toList 1 = 92 then ((at_ a0.data.toList 1 : Int), 2, 0) else if at_ a0.data.toList 1 = 110 then (10, 2, 0) else if at_ a0.data.toList 1 = 116 then (9, 2, 0) else if at_ a0.data.toList 1 = 114 then (13, 2, 0) else
  if at_ a0.data.toList 1 = 48 then (0, 2, 0) else if at_ a0.data.toList 1 = 120 then hexE a0.data.toList 2 else if at_ a0.data.toList 1 = 117 then hexE a0.data.toList 4 else if at_ a0.data.toList 1 = 85 then hexE a0.data.toList 8 else (0, 0, 3) := by
  unfold escB; rw [hL]
 by_cases h2 : a0.size < 2
 ·
  rw [hE, if_pos h2]
  have hc2 : decide ((a0.size : Int) < 2) = true := by simp; omega
  clear hE hx hL hlt hG
  go_enter Tryz.func189, Tryz.ntmps189
  go_wp2
  go_ret3
  exact ⟨rfl, Below.refl _ _⟩
 rw [if_neg h2] at hE
 have hc2 : decide ((a0.size : Int) < 2) = false := by simp; omega
 by_cases c7 : at_ a0.data.toList 1 = 120
 ·
  rw [c7] at hx
  rw [show escB a0.data.toList = hexE a0.data.toList 2 by rw [hE, c7]; rfl]
  exact esc_hex a0 w hG hs (by omega) 2 4 120 4 2 (.inl ⟨rfl, rfl, rfl, rfl, rfl⟩) hx
 by_cases c8 : at_ a0.data.toList 1 = 117
 ·
  rw [c8] at hx
  rw [show escB a0.data.toList = hexE a0.data.toList 4 by rw [hE, c8]; rfl]
  exact esc_hex a0 w hG hs (by omega) 4 6 117 6 4 (.inr (.inl ⟨rfl, rfl, rfl, rfl, rfl⟩)) hx
 by_cases c9 : at_ a0.data.toList 1 = 85
 ·
  rw [c9] at hx
  rw [show escB a0.data.toList = hexE a0.data.toList 8 by rw [hE, c9]; rfl]
  exact esc_hex a0 w hG hs (by omega) 8 10 85 10 8 (.inr (.inr ⟨rfl, rfl, rfl, rfl, rfl⟩)) hx
 rw [hE]
 clear hE hL hG hs
 have h2' : 2 ≤ a0.size := by omega
 generalize at_ a0.data.toList 1 = x at *
 by_cases c1 : x = 34
 ·
  subst c1
  go_enter Tryz.func189, Tryz.ntmps189
  go_wp2
  go_ret3
  exact ⟨rfl, Below.refl _ _⟩
 by_cases c2 : x = 92
 ·
  subst c2
  go_enter Tryz.func189, Tryz.ntmps189
  go_wp2
  go_ret3
  exact ⟨rfl, Below.refl _ _⟩
 by_cases c3 : x = 110
 ·
  subst c3
  go_enter Tryz.func189, Tryz.ntmps189
  go_wp2
  go_ret3
  exact ⟨rfl, Below.refl _ _⟩
 by_cases c4 : x = 116
 ·
  subst c4
  go_enter Tryz.func189, Tryz.ntmps189
  go_wp2
  go_ret3
  exact ⟨rfl, Below.refl _ _⟩
 by_cases c5 : x = 114
 ·
  subst c5
  go_enter Tryz.func189, Tryz.ntmps189
  go_wp2
  go_ret3
  exact ⟨rfl, Below.refl _ _⟩
 by_cases c6 : x = 48
 ·
  subst c6
  go_enter Tryz.func189, Tryz.ntmps189
  go_wp2
  go_ret3
  exact ⟨rfl, Below.refl _ _⟩
 rw [if_neg (show ¬ (x = 34 ∨ x = 92) by omega), if_neg c3, if_neg c4, if_neg c5, if_neg c6, if_neg c7, if_neg c8, if_neg c9]
 have b1 : ((x : Int) == 34) = false := by rw [beq_eq_false_iff_ne]; omega
 have b2 : ((x : Int) == 92) = false := by rw [beq_eq_false_iff_ne]; omega
 have b3 : ((x : Int) == 110) = false := by rw [beq_eq_false_iff_ne]; omega
 have b4 : ((x : Int) == 116) = false := by rw [beq_eq_false_iff_ne]; omega
 have b5 : ((x : Int) == 114) = false := by rw [beq_eq_false_iff_ne]; omega
 have b6 : ((x : Int) == 48) = false := by rw [beq_eq_false_iff_ne]; omega
 have b7 : ((x : Int) == 120) = false := by rw [beq_eq_false_iff_ne]; omega
 have b8 : ((x : Int) == 117) = false := by rw [beq_eq_false_iff_ne]; omega
 have b9 : ((x : Int) == 85) = false := by rw [beq_eq_false_iff_ne]; omega
 clear c1 c2 c3 c4 c5 c6 c7 c8 c9
 go_enter Tryz.func189, Tryz.ntmps189
 go_wp2
 go_ret3
 exact ⟨rfl, Below.refl _ _⟩
end Go.Proofs.YtiooacmplmcphaaGreatDoor.Plug
namespace Go.Proofs.YtiooacmplmcphaaGreatDoor.Plug
open RowKit YtiooacmplmcphaaGreatDoor YtiooacmplmcphaaGreatDoor.PX YtiooacmplmcphaaGreatDoor.Utf YtiooacmplmcphaaGreatDoorW.PrintWords YtiooacmplmcphaaGreatDoorW.PrintLast YtiooacmplmcphaaGreatDoorW.PrintMore
structure RdAt (w0 w : World) (g : Nat) (B : Nat) (o : Obj) (a : Int) (b : ByteArray) (c d : Int) (W : World) : Prop where
 is : IsS138 w0 W g a b c d
 bel : Below w0.heap.size w0 W
 keep : KeepBut w W g none
 ne : B ≠ g
 res : W.heap[B]? = some o
theorem RdAt.below {w0 w : World} {g B : Nat} {o : Obj} {a : Int} {b : ByteArray} {c d : Int} {W W' : World} (h : RdAt w0 w g B o a b c d W) (hb : Below W.heap.size W W') : RdAt w0 w g B o a b c d W' :=
  ⟨h.is.below hb, h.bel.trans (hb.mono h.bel.size), h.keep.trans (KeepBut.of_below hb g none) (.inl rfl), h.ne, (hb.block B (blk_lt h.res)).trans h.res⟩
theorem RdAt.drew {w0 w : World} {g B : Nat} {o : Obj} {a : Int} {b : ByteArray} {c d : Int} {W : World} (h : RdAt w0 w g B o a b c d W) : RdAt w0 w g B o a b c d W.drew := h.below (Below.drew (Below.refl _ _))
theorem RdAt.alloc {w0 w : World} {g B : Nat} {o : Obj} {a : Int} {b : ByteArray} {c d : Int} {W : World} (h : RdAt w0 w g B o a b c d W) (o' : Obj) : RdAt w0 w g B o a b c d (W.alloc o') := h.below ((Below.refl _ _).alloc (Nat.le_refl _) _)
theorem RdAt.cell0 {w0 w : World} {g B : Nat} {o : Obj} {a : Int} {b : ByteArray} {c d : Int} {W : World} (h : RdAt w0 w g B o a b c d W) : W.cell? ⟨g, 0, none⟩ = some (.int .i64 a) := cellS138_0 h.is.1
theorem RdAt.cell1 {w0 w : World} {g B : Nat} {o : Obj} {a : Int} {b : ByteArray} {c d : Int} {W : World} (h : RdAt w0 w g B o a b c d W) : W.cell? ⟨g, 1, none⟩ = some (.string b) := cellS138_1 h.is.1
theorem RdAt.set1 {w0 w : World} {g B : Nat} {o : Obj} {a : Int} {b : ByteArray} {c d : Int} {W : World} (h : RdAt w0 w g B o a b c d W) (x : ByteArray) : RdAt w0 w g B o a x c d (W.setCell ⟨g, 1, none⟩ (.string x)) :=
  ⟨h.is.set_1 x, h.bel.setCell h.is.ge _, h.keep.set_ 1 _, h.ne, by rw [Below.heap_setCell _ _ _ _ h.ne]; exact h.res⟩
theorem RdAt.wrong {w0 w : World} {g B : Nat} {o : Obj} {a : Int} {b : ByteArray} {c d : Int} {W : World} (h : RdAt w0 w g B o a b c d W) (hG : Glob.G w0) {n : Int} {r : Int × ByteArray × Int × Int} (hr : path_reader_wrong.f a b c d n = some r) :
  Calls Tryz.prog 99 #[.pointer (some ⟨g, 0, none⟩), .int .i64 n] W fun e w' => e = .returned (.tuple #[]) ∧ RdAt w0 w g B o r.1 r.2.1 r.2.2.1 r.2.2.2 w' :=
 (path_reader_wrong.calls g a b c d n r.1 r.2.1 r.2.2.1 r.2.2.2 w0 W h.is h.bel hG hr).mono fun _ _ ⟨e, i, b, k⟩ => ⟨e, i, b, h.keep.trans k (.inl rfl), h.ne, k.blk h.res h.ne (by simp)⟩
def isDig (b : UInt8) : Bool := decide (48 ≤ b.toNat) && decide (b.toNat ≤ 57)
def digN (l : List UInt8) : Nat := (l.takeWhile isDig).length
def numOf (l : List UInt8) : Int := match Lib.atoiAll l with
 | .ok v => v
 | .range => Lib.atoiSat l
 | _ => 0
def mostOf (l : List UInt8) : Int := if at_ l 0 = 48 then 1 else 6
def path_reader_index.f (s0_0 : Int) (s0_1 : ByteArray) (s0_2 : Int) (s0_3 : Int) : Option (ByteArray × Int × Bool × Int × ByteArray × Int × Int) :=
 if s0_1.size ≤ 140737488351232 then
  (if (mostOf (s0_1.data.toList.take (digN s0_1.data.toList))) < (digN s0_1.data.toList : Int) then path_reader_wrong.f s0_0 s0_1 s0_2 s0_3 (mostOf (s0_1.data.toList.take (digN s0_1.data.toList))) else some (s0_0, s0_1, s0_2, s0_3)).bind fun q =>
  if digN s0_1.data.toList = 0 ∨ digN s0_1.data.toList = s0_1.size ∨ at_ s0_1.data.toList (digN s0_1.data.toList) ≠ 93 then
   (path_reader_wrong.f q.1 q.2.1 q.2.2.1 q.2.2.2 (digN s0_1.data.toList : Int)).bind fun p => some (⟨#[]⟩, 0, false, p.1, p.2.1, p.2.2.1, p.2.2.2)
  else some (⟨#[]⟩, numOf (s0_1.data.toList.take (digN s0_1.data.toList)), true, q.1, s0_1.extract (digN s0_1.data.toList + 1) s0_1.size, q.2.2.1, q.2.2.2)
 else none
theorem dig_contains (b : UInt8) : ([48, 49, 50, 51, 52, 53, 54, 55, 56, 57] : List UInt8).contains b = isDig b := by
 have : ∀ n : Fin 256, ([48, 49, 50, 51, 52, 53, 54, 55, 56, 57] : List UInt8).contains (UInt8.ofNat n.val) = isDig (UInt8.ofNat n.val) := by decide +kernel
 have h := this ⟨b.toNat, UInt8.toNat_lt b⟩
 simpa using h
theorem dropWhile_len {α : Type} (p : α → Bool) (l : List α) : l.dropWhile p = l.drop (l.takeWhile p).length := by
 induction l with
 | nil => rfl
 | cons a l ih =>
  by_cases h : p a = true
  rotate_left
  · rw [List.dropWhile_cons_of_neg h, List.takeWhile_cons_of_neg h]; rfl
  rw [List.dropWhile_cons_of_pos h, List.takeWhile_cons_of_pos h, ih]; rfl
theorem digN_le (l : List UInt8) : digN l ≤ l.length := by
  unfold digN; exact (List.takeWhile_prefix (p := isDig)).length_le
theorem trim_dig (s : ByteArray) : strings_TrimLeft.f s ⟨#[48, 49, 50, 51, 52, 53, 54, 55, 56, 57]⟩ = some (s.extract (digN s.data.toList) s.size) := by
 unfold strings_TrimLeft.f
 rw [if_pos ⟨by decide, by decide⟩]
 have : Lib.trimLeftS s.data.toList (⟨#[48, 49, 50, 51, 52, 53, 54, 55, 56, 57]⟩ : ByteArray).data.toList = s.data.toList.drop (digN s.data.toList) := by
  unfold Lib.trimLeftS digN
  rw [← dropWhile_len]
  congr 1
  funext b
  exact dig_contains b
 rw [this]
 congr 1
 have h2 : (s.extract (digN s.data.toList) s.size).data.toList = s.data.toList.drop (digN s.data.toList) := by
  exact drop_list _ _
 cases he : s.extract (digN s.data.toList) s.size with
 | mk d => rw [he] at h2; simp only at h2; rw [← h2]
theorem prefix_zero (l : List UInt8) : Lib.hasPrefix l [48] = (at_ l 0 == 48) := by
 cases l with
 | nil => rfl
 | cons a l =>
  show ([48].isPrefixOf (a :: l)) = (a.toNat == 48)
  rw [List.isPrefixOf_cons_cons, List.isPrefixOf_nil_left, Bool.and_true, Bool.eq_iff_iff, beq_iff_eq, beq_iff_eq]
  exact ⟨fun e => by rw [← e]; rfl, fun e => UInt8.toNat_inj.1 (by rw [e]; rfl)⟩
theorem wrong_str {a : Int} {b : ByteArray} {c d n : Int} {q : Int × ByteArray × Int × Int} (h : path_reader_wrong.f a b c d n = some q) : q.2.1 = b := by
 unfold path_reader_wrong.f path_reader_fail.f at h
 split at h <;> exact congrArg (fun z => z.2.1) (Option.some.inj h).symm
theorem RdAt.ret {w0 w : World} {g B : Nat} {x0 x1 x2 : Value} {a : Int} {b : ByteArray} {c d : Int} {W : World} (h : RdAt w0 w g B (.cells #[x0, x1, x2] 98 (0, 0)) a b c d W) (h1 : w.heap.size ≤ B) (h2 : w0.heap.size ≤ B) (y0 y1 y2 : Value) :
  (((W.setCell ⟨B, 0, none⟩ y0).setCell ⟨B, 1, none⟩ y1).setCell ⟨B, 2, none⟩ y2).heap[B]? = some (.cells #[y0, y1, y2] 98 (0, 0)) ∧ IsS138 w0 (((W.setCell ⟨B, 0, none⟩ y0).setCell ⟨B, 1, none⟩ y1).setCell ⟨B, 2, none⟩ y2) g a b c d ∧
   Below w0.heap.size w0 (((W.setCell ⟨B, 0, none⟩ y0).setCell ⟨B, 1, none⟩ y1).setCell ⟨B, 2, none⟩ y2) ∧ KeepBut w (((W.setCell ⟨B, 0, none⟩ y0).setCell ⟨B, 1, none⟩ y1).setCell ⟨B, 2, none⟩ y2) g none := by
 have hne : g ≠ B := fun e => h.ne e.symm
 refine ⟨by simpa using blk_set (blk_set (blk_set h.res 0 y0) 1 y1) 2 y2, ((h.is.far (p := ⟨B, 0, none⟩) hne _).far (p := ⟨B, 1, none⟩) hne _).far (p := ⟨B, 2, none⟩) hne _, ((h.bel.setCell h2 _).setCell h2 _).setCell h2 _, keep_far (keep_far (keep_far h.keep h1 _) h1 _) h1 _⟩
theorem atoi_num (s : ByteArray) (w : World) (hG : Glob.G w) (hs : s.size ≤ 140737488351232) :
  Calls Tryz.prog 126 #[.string s] w fun e w' => ∃ err : Value, e = .returned (.tuple #[.int .i64 (numOf s.data.toList), err]) ∧ Below w.heap.size w w' := by
 unfold numOf
 rcases hc : Lib.atoiAll s.data.toList with v | _ | _
 · exact (atoi_ok s w hs v hc).mono fun e w' ⟨he, hb⟩ => ⟨_, he, hb⟩
 ·
  obtain ⟨tp, pp, hv⟩ := hG.syn
  exact (Any.strconv_Atoi_syntax_var Tryz.laysC172 s (by omega) hc tp pp w hv).mono fun e w' ⟨N, he, _, _, hb⟩ => ⟨_, he, hb⟩
 ·
  obtain ⟨tp, pp, hv⟩ := hG.rng
  exact (Tryz.strconv_Atoi_range_var s (by omega) hc tp pp w hv).mono fun e w' ⟨N, he, _, _, hb⟩ => ⟨_, he, hb⟩
set_option maxHeartbeats 1600000 in
set_option maxRecDepth 100000 in
theorem path_reader_index.calls (g : Nat) (s0_0 : Int) (s0_1 : ByteArray) (s0_2 : Int) (s0_3 : Int) (r1 : ByteArray) (r2 : Int) (r3 : Bool) (r4 : Int) (r5 : ByteArray) (r6 : Int) (r7 : Int) (w0 w : World) (hI : IsS138 w0 w g s0_0 s0_1 s0_2 s0_3) (hB : Below w0.heap.size w0 w) (hG : Glob.G w0) (h : path_reader_index.f s0_0 s0_1 s0_2 s0_3 = some (r1, r2, r3, r4, r5, r6, r7)) :
    Calls Tryz.prog 98 #[.pointer (some ⟨g, 0, none⟩)] w fun e w' => e = .returned (.agg #[.string r1, .int .i64 r2, .bool r3]) ∧ IsS138 w0 w' g r4 r5 r6 r7 ∧ Below w0.heap.size w0 w' ∧ KeepBut w w' g none := by
  unfold path_reader_index.f at h
  by_cases hs : s0_1.size ≤ 140737488351232
  case neg => rw [if_neg hs] at h; cases h
  rw [if_pos hs] at h
  obtain ⟨q, hq, h⟩ := Option.bind_eq_some_iff.1 h
  have hn := digN_le s0_1.data.toList
  rw [← size_list] at hn
  obtain ⟨u, hu, hul⟩ : ∃ u : ByteArray, strings_TrimLeft.f s0_1 ⟨#[48, 49, 50, 51, 52, 53, 54, 55, 56, 57]⟩ = some u ∧ u.size + digN s0_1.data.toList = s0_1.size := ⟨_, trim_dig s0_1, by
    rw [size_list, drop_list, List.length_drop, ← size_list]; omega⟩
  have hL := size_list s0_1
  obtain ⟨d, hd, hds⟩ : ∃ d : ByteArray, d = s0_1.extract 0 (digN s0_1.data.toList) ∧ d.data.toList = s0_1.data.toList.take (digN s0_1.data.toList) := ⟨_, rfl, by
    have := extract_list s0_1 0 (digN s0_1.data.toList)
    rw [List.drop_zero, Nat.sub_zero] at this
    exact this⟩
  rw [← hds] at hq
  generalize digN s0_1.data.toList = n at *
  have hdn : d.size = n := by rw [size_list, hds, List.length_take, ← hL]; omega
  have hR : RdAt w0 w g w.heap.size (.cells #[.string ⟨#[]⟩, .int .i64 0, .bool false] 98 (0, 0)) s0_0 s0_1 s0_2 s0_3 (w.alloc (.cells #[.string ⟨#[]⟩, .int .i64 0, .bool false] 98)) :=
    ⟨hI.alloc _, hB.trans (((Below.refl w.heap.size w).alloc (Nat.le_refl _) _).mono hB.size), KeepBut.of_below ((Below.refl w.heap.size w).alloc (Nat.le_refl _) _) g none, fun e => by have := hI.lt; omega, heap_alloc_new w _⟩
  have hG0 := Lib.hid hG
  have hc1 := hR.cell1
  have hRd := Lib.hid hR.drew
  have e1 : IntKind.i64.wrap ((s0_1.size : Int) - (u.size : Int)) = (n : Int) := by rw [show (s0_1.size : Int) - (u.size : Int) = (n : Int) by omega]; exact IntWalk.i64_in _ (by omega)
  have e2 : (0 : Int) ≤ (n : Int) := Int.natCast_nonneg n
  have e3 : (n : Int) ≤ (s0_1.size : Int) := by omega
  have HD := Lib.hid hd; have HDS := Lib.hid hds; have HQ := Lib.hid hq; have HH := Lib.hid h; have HL := Lib.hid hL; have HU := Lib.hid hul; have HDN := Lib.hid hdn; have HT := Lib.hid hu
  have HW0 := Lib.hid hB.size
  clear hd hds hq h hL hul hdn hu hI hB hG hR
  go_enter Tryz.func98, Tryz.ntmps98
  go_wp2
  go_region_held3 (fun W' => W'.cell? ⟨g, 1, none⟩ = some (.string s0_1)) (first | exact hc1 | exact (hRd.out.below hb2).cell1)
    ((go_at_call 124; refine (strings_TrimLeft.calls _ _ _ _ (hG0.out.below hRd.out.bel) HT.out).mono ?_; rintro e w2 ⟨rfl, hb2⟩))
  have hR2 := Lib.hid (hRd.out.below hb2)
  have hcell := hR2.out.cell1
  clear hc1 hb2 hRd
  obtain ⟨rest, hre⟩ : ∃ rest : ByteArray, s0_1.extract n s0_1.size = rest := ⟨_, rfl⟩
  have hrs : rest.size = s0_1.size - n := by rw [← hre, size_list, drop_list, List.length_drop, ← HL.out]
  have hrl : rest.data.toList = s0_1.data.toList.drop n := by rw [← hre]; exact drop_list _ _
  have hde : s0_1.extract 0 n = d := HD.out.symm
  have HRS := Lib.hid hrs; have HRL := Lib.hid hrl
  have hds2 : d.size = n := HDN.out
  have hD0 : ∀ b, (d.toList.isEmpty = b ↔ decide (n = 0) = b) := fun b => by
    have : d.toList.isEmpty = decide (n = 0) := by rw [Lib.toList_data, Bool.eq_iff_iff, List.isEmpty_iff, decide_eq_true_iff, ← List.length_eq_zero_iff, ← size_list, HDN.out]
    rw [this]
  have hR0 : ∀ b, (rest.toList.isEmpty = b ↔ decide (n = s0_1.size) = b) := fun b => by
    have : rest.toList.isEmpty = decide (n = s0_1.size) := by rw [Lib.toList_data, Bool.eq_iff_iff, List.isEmpty_iff, decide_eq_true_iff, ← List.length_eq_zero_iff, ← size_list, HRS.out]; omega
    rw [this]
  have HD0 := Lib.hid hD0; have HR0 := Lib.hid hR0
  have hx0 : ∀ h : 0 < rest.size, ((rest[0]'h).toNat : Int) = (at_ s0_1.data.toList n : Int) := fun h => by
    rw [← show bt rest ((0 : Nat) : Int) = (at_ s0_1.data.toList n : Int) by rw [bt_at_, HRL.out]; unfold at_; rw [List.getD_eq_getElem?_getD, List.getD_eq_getElem?_getD, List.getElem?_drop, Nat.add_zero]]
    exact bt_at rest ((0 : Nat) : Int) h
  have HX0 := Lib.hid hx0
  clear hrs hrl hD0 hR0 hx0 h
  generalize at_ s0_1.data.toList n = x at *
  by_cases hz : at_ d.data.toList 0 = 48
  · have HP : Hid (strings_HasPrefix.f d ⟨#[48]⟩ = some true) := Lib.hid (by unfold strings_HasPrefix.f; rw [show (⟨#[48]⟩ : ByteArray).data.toList = [48] from rfl, prefix_zero, hz]; rfl)
    have hmo : mostOf d.data.toList = 1 := by unfold mostOf; rw [if_pos hz]
    rw [hmo] at HQ; have HZ := Lib.hid hz; clear hmo hz
    by_cases cm : 1 < n
    · have HQ2 : Hid (path_reader_wrong.f s0_0 s0_1 s0_2 s0_3 1 = some q) := Lib.hid (by have := HQ.out; rwa [if_pos (by omega)] at this)
      have hqs : q.2.1 = s0_1 := wrong_str HQ2.out
      obtain ⟨qa, qb, qc, qd⟩ := q
      simp only at hqs; subst hqs
      have k4 : decide ((n : Int) > 1) = true := decide_eq_true (by omega)
      have HCM := Lib.hid cm; clear cm
      by_cases c0 : n = 0
      · have k0 : d.toList.isEmpty = true := (HD0.out _).2 (decide_eq_true c0)
        have HE := HH.out; rw [if_pos (by exact .inl c0)] at HE; obtain ⟨p, hp, HE⟩ := Option.bind_eq_some_iff.1 HE; obtain ⟨rfl, rfl, rfl, rfl, rfl, rfl, rfl⟩ := by simpa only [Option.some.injEq, Prod.mk.injEq] using HE
        have HPP := Lib.hid hp; clear HE HH hp
        have HC0 := Lib.hid c0; clear c0
        go_wp2_with (first | (go_at_call 125; refine (strings_HasPrefix.calls _ _ _ _ (hG0.out.below hR2.out.bel) HP.out).mono ?_; rintro e w3 ⟨rfl, ⟨n3, rfl⟩⟩; have hR3 := Lib.hid (hR2.out.below (Drawn0.below (Drawn0.step (Drawn0.refl w2) n3)))) | (go_at_call 99; with_reducible refine (hR3.out.wrong hG0.out HQ2.out).mono ?_; rintro e w4 ⟨rfl, hR4⟩; have hc4 := hR4.cell1; have HR4 := Lib.hid hR4; clear hR4) | (go_at_call 99; with_reducible refine (HR4.out.wrong hG0.out HPP.out).mono ?_; rintro e w6 ⟨rfl, hR6⟩; have p0 := (blk_cell hR6.res 0).trans rfl; have p1 := (blk_cell hR6.res 1).trans rfl; have p2 := (blk_cell hR6.res 2).trans rfl; have q0 := blk_frozen hR6.res 0; have q1 := blk_frozen hR6.res 1; have q2 := blk_frozen hR6.res 2; have HR6 := Lib.hid hR6; clear hR6))
        obtain ⟨z0, z1, z2, z3⟩ := HR6.out.ret (Nat.le_refl _) HW0.out (.string ⟨#[]⟩) (.int .i64 0) (.bool false)
        refine bodyPost_ret (results_cell_row rfl _ _ w.heap.size 98 #[.string ⟨#[]⟩, .int .i64 0, .bool false] (0, 0) _ rfl z0 Tryz.underlying98 rfl (by kernel_rfl)) rfl ?_
        exact ⟨rfl, z1, z2, z3⟩
      · by_cases c1 : n = qb.size
        · have k0 : d.toList.isEmpty = false := (HD0.out _).2 (decide_eq_false c0)
          have k1 : rest.toList.isEmpty = true := (HR0.out _).2 (decide_eq_true c1)
          have HE := HH.out; rw [if_pos (by exact .inr (.inl c1))] at HE; obtain ⟨p, hp, HE⟩ := Option.bind_eq_some_iff.1 HE; obtain ⟨rfl, rfl, rfl, rfl, rfl, rfl, rfl⟩ := by simpa only [Option.some.injEq, Prod.mk.injEq] using HE
          have HPP := Lib.hid hp; clear HE HH hp
          have HC0 := Lib.hid c0; have HC1 := Lib.hid c1; clear c0 c1
          go_wp2_with (first | (go_at_call 125; refine (strings_HasPrefix.calls _ _ _ _ (hG0.out.below hR2.out.bel) HP.out).mono ?_; rintro e w3 ⟨rfl, ⟨n3, rfl⟩⟩; have hR3 := Lib.hid (hR2.out.below (Drawn0.below (Drawn0.step (Drawn0.refl w2) n3)))) | (go_at_call 99; with_reducible refine (hR3.out.wrong hG0.out HQ2.out).mono ?_; rintro e w4 ⟨rfl, hR4⟩; have hc4 := hR4.cell1; have HR4 := Lib.hid hR4; clear hR4) | (go_at_call 99; with_reducible refine (HR4.out.wrong hG0.out HPP.out).mono ?_; rintro e w6 ⟨rfl, hR6⟩; have p0 := (blk_cell hR6.res 0).trans rfl; have p1 := (blk_cell hR6.res 1).trans rfl; have p2 := (blk_cell hR6.res 2).trans rfl; have q0 := blk_frozen hR6.res 0; have q1 := blk_frozen hR6.res 1; have q2 := blk_frozen hR6.res 2; have HR6 := Lib.hid hR6; clear hR6))
          obtain ⟨z0, z1, z2, z3⟩ := HR6.out.ret (Nat.le_refl _) HW0.out (.string ⟨#[]⟩) (.int .i64 0) (.bool false)
          refine bodyPost_ret (results_cell_row rfl _ _ w.heap.size 98 #[.string ⟨#[]⟩, .int .i64 0, .bool false] (0, 0) _ rfl z0 Tryz.underlying98 rfl (by kernel_rfl)) rfl ?_
          exact ⟨rfl, z1, z2, z3⟩
        · by_cases c2 : x = 93
          · have k0 : d.toList.isEmpty = false := (HD0.out _).2 (decide_eq_false c0)
            have k1 : rest.toList.isEmpty = false := (HR0.out _).2 (decide_eq_false c1)
            have k2 : 0 < rest.size := by have := HRS.out; omega
            have k3 := HX0.out
            have k6 : ((x : Int) == 93) = true := by rw [c2]; rfl
            have k7 : ((x : Int) != 93) = false := by rw [c2]; rfl
            have k5 : (n : Int) + 1 ≤ (qb.size : Int) := by omega
            have HE := HH.out; rw [if_neg (by rintro (e | e | e) <;> omega), ← HDS.out] at HE; obtain ⟨rfl, rfl, rfl, rfl, rfl, rfl, rfl⟩ := by simpa only [Option.some.injEq, Prod.mk.injEq] using HE
            clear HE HH
            have HC0 := Lib.hid c0; have HC1 := Lib.hid c1; have HC2 := Lib.hid c2; clear c0 c1 c2
            go_wp2_with (first | (go_at_call 125; refine (strings_HasPrefix.calls _ _ _ _ (hG0.out.below hR2.out.bel) HP.out).mono ?_; rintro e w3 ⟨rfl, ⟨n3, rfl⟩⟩; have hR3 := Lib.hid (hR2.out.below (Drawn0.below (Drawn0.step (Drawn0.refl w2) n3)))) | (go_at_call 99; with_reducible refine (hR3.out.wrong hG0.out HQ2.out).mono ?_; rintro e w4 ⟨rfl, hR4⟩; have hc4 := hR4.cell1; have HR4 := Lib.hid hR4; clear hR4) | (go_at_call 126; refine (atoi_num _ _ (hG0.out.below HR4.out.bel) (by have := HDN.out; omega)).mono ?_; rintro e w5 ⟨err, rfl, hb5⟩; have hR5 := Lib.hid (HR4.out.below hb5); have hc5 := hR5.out.cell1; have hf5 := blk_frozen hR5.out.is.1 1; have hR6 := Lib.hid (hR5.out.set1 (qb.extract (n + 1) qb.size)); have p0 := (blk_cell hR6.out.res 0).trans rfl; have p1 := (blk_cell hR6.out.res 1).trans rfl; have p2 := (blk_cell hR6.out.res 2).trans rfl; have q0 := blk_frozen hR6.out.res 0; have q1 := blk_frozen hR6.out.res 1; have q2 := blk_frozen hR6.out.res 2))
            obtain ⟨z0, z1, z2, z3⟩ := hR6.out.ret (Nat.le_refl _) HW0.out (.string ⟨#[]⟩) (.int .i64 (numOf d.data.toList)) (.bool true)
            refine bodyPost_ret (results_cell_row rfl _ _ w.heap.size 98 #[.string ⟨#[]⟩, .int .i64 (numOf d.data.toList), .bool true] (0, 0) _ rfl z0 Tryz.underlying98 rfl (by kernel_rfl)) rfl ?_
            exact ⟨rfl, z1, z2, z3⟩
          · have k0 : d.toList.isEmpty = false := (HD0.out _).2 (decide_eq_false c0)
            have k1 : rest.toList.isEmpty = false := (HR0.out _).2 (decide_eq_false c1)
            have k2 : 0 < rest.size := by have := HRS.out; omega
            have k3 := HX0.out
            have k6 : ((x : Int) == 93) = false := by rw [beq_eq_false_iff_ne]; omega
            have k7 : ((x : Int) != 93) = true := by rw [bne_iff_ne]; omega
            have HE := HH.out; rw [if_pos (by exact .inr (.inr c2))] at HE; obtain ⟨p, hp, HE⟩ := Option.bind_eq_some_iff.1 HE; obtain ⟨rfl, rfl, rfl, rfl, rfl, rfl, rfl⟩ := by simpa only [Option.some.injEq, Prod.mk.injEq] using HE
            have HPP := Lib.hid hp; clear HE HH hp
            have HC0 := Lib.hid c0; have HC1 := Lib.hid c1; have HC2 := Lib.hid c2; clear c0 c1 c2
            go_wp2_with (first | (go_at_call 125; refine (strings_HasPrefix.calls _ _ _ _ (hG0.out.below hR2.out.bel) HP.out).mono ?_; rintro e w3 ⟨rfl, ⟨n3, rfl⟩⟩; have hR3 := Lib.hid (hR2.out.below (Drawn0.below (Drawn0.step (Drawn0.refl w2) n3)))) | (go_at_call 99; with_reducible refine (hR3.out.wrong hG0.out HQ2.out).mono ?_; rintro e w4 ⟨rfl, hR4⟩; have hc4 := hR4.cell1; have HR4 := Lib.hid hR4; clear hR4) | (go_at_call 99; with_reducible refine (HR4.out.wrong hG0.out HPP.out).mono ?_; rintro e w6 ⟨rfl, hR6⟩; have p0 := (blk_cell hR6.res 0).trans rfl; have p1 := (blk_cell hR6.res 1).trans rfl; have p2 := (blk_cell hR6.res 2).trans rfl; have q0 := blk_frozen hR6.res 0; have q1 := blk_frozen hR6.res 1; have q2 := blk_frozen hR6.res 2; have HR6 := Lib.hid hR6; clear hR6))
            obtain ⟨z0, z1, z2, z3⟩ := HR6.out.ret (Nat.le_refl _) HW0.out (.string ⟨#[]⟩) (.int .i64 0) (.bool false)
            refine bodyPost_ret (results_cell_row rfl _ _ w.heap.size 98 #[.string ⟨#[]⟩, .int .i64 0, .bool false] (0, 0) _ rfl z0 Tryz.underlying98 rfl (by kernel_rfl)) rfl ?_
            exact ⟨rfl, z1, z2, z3⟩
    · have hq1 : q = (s0_0, s0_1, s0_2, s0_3) := by have := HQ.out; rw [if_neg (by omega)] at this; exact (Option.some.inj this).symm
      subst hq1
      have k4 : decide ((n : Int) > 1) = false := decide_eq_false (by omega)
      have HCM := Lib.hid cm; clear cm
      by_cases c0 : n = 0
      · have k0 : d.toList.isEmpty = true := (HD0.out _).2 (decide_eq_true c0)
        have HE := HH.out; rw [if_pos (by exact .inl c0)] at HE; obtain ⟨p, hp, HE⟩ := Option.bind_eq_some_iff.1 HE; obtain ⟨rfl, rfl, rfl, rfl, rfl, rfl, rfl⟩ := by simpa only [Option.some.injEq, Prod.mk.injEq] using HE
        have HPP := Lib.hid hp; clear HE HH hp
        have HC0 := Lib.hid c0; clear c0
        go_wp2_with (first | (go_at_call 125; refine (strings_HasPrefix.calls _ _ _ _ (hG0.out.below hR2.out.bel) HP.out).mono ?_; rintro e w3 ⟨rfl, ⟨n3, rfl⟩⟩; have hR3 := Lib.hid (hR2.out.below (Drawn0.below (Drawn0.step (Drawn0.refl w2) n3)))) | (go_at_call 99; with_reducible refine (hR3.out.wrong hG0.out HPP.out).mono ?_; rintro e w6 ⟨rfl, hR6⟩; have p0 := (blk_cell hR6.res 0).trans rfl; have p1 := (blk_cell hR6.res 1).trans rfl; have p2 := (blk_cell hR6.res 2).trans rfl; have q0 := blk_frozen hR6.res 0; have q1 := blk_frozen hR6.res 1; have q2 := blk_frozen hR6.res 2; have HR6 := Lib.hid hR6; clear hR6))
        obtain ⟨z0, z1, z2, z3⟩ := HR6.out.ret (Nat.le_refl _) HW0.out (.string ⟨#[]⟩) (.int .i64 0) (.bool false)
        refine bodyPost_ret (results_cell_row rfl _ _ w.heap.size 98 #[.string ⟨#[]⟩, .int .i64 0, .bool false] (0, 0) _ rfl z0 Tryz.underlying98 rfl (by kernel_rfl)) rfl ?_
        exact ⟨rfl, z1, z2, z3⟩
      · by_cases c1 : n = s0_1.size
        · have k0 : d.toList.isEmpty = false := (HD0.out _).2 (decide_eq_false c0)
          have k1 : rest.toList.isEmpty = true := (HR0.out _).2 (decide_eq_true c1)
          have HE := HH.out; rw [if_pos (by exact .inr (.inl c1))] at HE; obtain ⟨p, hp, HE⟩ := Option.bind_eq_some_iff.1 HE; obtain ⟨rfl, rfl, rfl, rfl, rfl, rfl, rfl⟩ := by simpa only [Option.some.injEq, Prod.mk.injEq] using HE
          have HPP := Lib.hid hp; clear HE HH hp
          have HC0 := Lib.hid c0; have HC1 := Lib.hid c1; clear c0 c1
          go_wp2_with (first | (go_at_call 125; refine (strings_HasPrefix.calls _ _ _ _ (hG0.out.below hR2.out.bel) HP.out).mono ?_; rintro e w3 ⟨rfl, ⟨n3, rfl⟩⟩; have hR3 := Lib.hid (hR2.out.below (Drawn0.below (Drawn0.step (Drawn0.refl w2) n3)))) | (go_at_call 99; with_reducible refine (hR3.out.wrong hG0.out HPP.out).mono ?_; rintro e w6 ⟨rfl, hR6⟩; have p0 := (blk_cell hR6.res 0).trans rfl; have p1 := (blk_cell hR6.res 1).trans rfl; have p2 := (blk_cell hR6.res 2).trans rfl; have q0 := blk_frozen hR6.res 0; have q1 := blk_frozen hR6.res 1; have q2 := blk_frozen hR6.res 2; have HR6 := Lib.hid hR6; clear hR6))
          obtain ⟨z0, z1, z2, z3⟩ := HR6.out.ret (Nat.le_refl _) HW0.out (.string ⟨#[]⟩) (.int .i64 0) (.bool false)
          refine bodyPost_ret (results_cell_row rfl _ _ w.heap.size 98 #[.string ⟨#[]⟩, .int .i64 0, .bool false] (0, 0) _ rfl z0 Tryz.underlying98 rfl (by kernel_rfl)) rfl ?_
          exact ⟨rfl, z1, z2, z3⟩
        · by_cases c2 : x = 93
          · have k0 : d.toList.isEmpty = false := (HD0.out _).2 (decide_eq_false c0)
            have k1 : rest.toList.isEmpty = false := (HR0.out _).2 (decide_eq_false c1)
            have k2 : 0 < rest.size := by have := HRS.out; omega
            have k3 := HX0.out
            have k6 : ((x : Int) == 93) = true := by rw [c2]; rfl
            have k7 : ((x : Int) != 93) = false := by rw [c2]; rfl
            have k5 : (n : Int) + 1 ≤ (s0_1.size : Int) := by omega
            have HE := HH.out; rw [if_neg (by rintro (e | e | e) <;> omega), ← HDS.out] at HE; obtain ⟨rfl, rfl, rfl, rfl, rfl, rfl, rfl⟩ := by simpa only [Option.some.injEq, Prod.mk.injEq] using HE
            clear HE HH
            have HC0 := Lib.hid c0; have HC1 := Lib.hid c1; have HC2 := Lib.hid c2; clear c0 c1 c2
            go_wp2_with (first | (go_at_call 125; refine (strings_HasPrefix.calls _ _ _ _ (hG0.out.below hR2.out.bel) HP.out).mono ?_; rintro e w3 ⟨rfl, ⟨n3, rfl⟩⟩; have hR3 := Lib.hid (hR2.out.below (Drawn0.below (Drawn0.step (Drawn0.refl w2) n3)))) | (go_at_call 126; refine (atoi_num _ _ (hG0.out.below hR3.out.bel) (by have := HDN.out; omega)).mono ?_; rintro e w5 ⟨err, rfl, hb5⟩; have hR5 := Lib.hid (hR3.out.below hb5); have hc5 := hR5.out.cell1; have hf5 := blk_frozen hR5.out.is.1 1; have hR6 := Lib.hid (hR5.out.set1 (s0_1.extract (n + 1) s0_1.size)); have p0 := (blk_cell hR6.out.res 0).trans rfl; have p1 := (blk_cell hR6.out.res 1).trans rfl; have p2 := (blk_cell hR6.out.res 2).trans rfl; have q0 := blk_frozen hR6.out.res 0; have q1 := blk_frozen hR6.out.res 1; have q2 := blk_frozen hR6.out.res 2))
            obtain ⟨z0, z1, z2, z3⟩ := hR6.out.ret (Nat.le_refl _) HW0.out (.string ⟨#[]⟩) (.int .i64 (numOf d.data.toList)) (.bool true)
            refine bodyPost_ret (results_cell_row rfl _ _ w.heap.size 98 #[.string ⟨#[]⟩, .int .i64 (numOf d.data.toList), .bool true] (0, 0) _ rfl z0 Tryz.underlying98 rfl (by kernel_rfl)) rfl ?_
            exact ⟨rfl, z1, z2, z3⟩
          · have k0 : d.toList.isEmpty = false := (HD0.out _).2 (decide_eq_false c0)
            have k1 : rest.toList.isEmpty = false := (HR0.out _).2 (decide_eq_false c1)
            have k2 : 0 < rest.size := by have := HRS.out; omega
            have k3 := HX0.out
            have k6 : ((x : Int) == 93) = false := by rw [beq_eq_false_iff_ne]; omega
            have k7 : ((x : Int) != 93) = true := by rw [bne_iff_ne]; omega
            have HE := HH.out; rw [if_pos (by exact .inr (.inr c2))] at HE; obtain ⟨p, hp, HE⟩ := Option.bind_eq_some_iff.1 HE; obtain ⟨rfl, rfl, rfl, rfl, rfl, rfl, rfl⟩ := by simpa only [Option.some.injEq, Prod.mk.injEq] using HE
            have HPP := Lib.hid hp; clear HE HH hp
            have HC0 := Lib.hid c0; have HC1 := Lib.hid c1; have HC2 := Lib.hid c2; clear c0 c1 c2
            go_wp2_with (first | (go_at_call 125; refine (strings_HasPrefix.calls _ _ _ _ (hG0.out.below hR2.out.bel) HP.out).mono ?_; rintro e w3 ⟨rfl, ⟨n3, rfl⟩⟩; have hR3 := Lib.hid (hR2.out.below (Drawn0.below (Drawn0.step (Drawn0.refl w2) n3)))) | (go_at_call 99; with_reducible refine (hR3.out.wrong hG0.out HPP.out).mono ?_; rintro e w6 ⟨rfl, hR6⟩; have p0 := (blk_cell hR6.res 0).trans rfl; have p1 := (blk_cell hR6.res 1).trans rfl; have p2 := (blk_cell hR6.res 2).trans rfl; have q0 := blk_frozen hR6.res 0; have q1 := blk_frozen hR6.res 1; have q2 := blk_frozen hR6.res 2; have HR6 := Lib.hid hR6; clear hR6))
            obtain ⟨z0, z1, z2, z3⟩ := HR6.out.ret (Nat.le_refl _) HW0.out (.string ⟨#[]⟩) (.int .i64 0) (.bool false)
            refine bodyPost_ret (results_cell_row rfl _ _ w.heap.size 98 #[.string ⟨#[]⟩, .int .i64 0, .bool false] (0, 0) _ rfl z0 Tryz.underlying98 rfl (by kernel_rfl)) rfl ?_
            exact ⟨rfl, z1, z2, z3⟩
  · have HP : Hid (strings_HasPrefix.f d ⟨#[48]⟩ = some false) := Lib.hid (by unfold strings_HasPrefix.f; rw [show (⟨#[48]⟩ : ByteArray).data.toList = [48] from rfl, prefix_zero, beq_eq_false_iff_ne.2 hz])
    have hmo : mostOf d.data.toList = 6 := by unfold mostOf; rw [if_neg hz]
    rw [hmo] at HQ; have HZ := Lib.hid hz; clear hmo hz
    by_cases cm : 6 < n
    · have HQ2 : Hid (path_reader_wrong.f s0_0 s0_1 s0_2 s0_3 6 = some q) := Lib.hid (by have := HQ.out; rwa [if_pos (by omega)] at this)
      have hqs : q.2.1 = s0_1 := wrong_str HQ2.out
      obtain ⟨qa, qb, qc, qd⟩ := q
      simp only at hqs; subst hqs
      have k4 : decide ((n : Int) > 6) = true := decide_eq_true (by omega)
      have HCM := Lib.hid cm; clear cm
      by_cases c0 : n = 0
      · have k0 : d.toList.isEmpty = true := (HD0.out _).2 (decide_eq_true c0)
        have HE := HH.out; rw [if_pos (by exact .inl c0)] at HE; obtain ⟨p, hp, HE⟩ := Option.bind_eq_some_iff.1 HE; obtain ⟨rfl, rfl, rfl, rfl, rfl, rfl, rfl⟩ := by simpa only [Option.some.injEq, Prod.mk.injEq] using HE
        have HPP := Lib.hid hp; clear HE HH hp
        have HC0 := Lib.hid c0; clear c0
        go_wp2_with (first | (go_at_call 125; refine (strings_HasPrefix.calls _ _ _ _ (hG0.out.below hR2.out.bel) HP.out).mono ?_; rintro e w3 ⟨rfl, ⟨n3, rfl⟩⟩; have hR3 := Lib.hid (hR2.out.below (Drawn0.below (Drawn0.step (Drawn0.refl w2) n3)))) | (go_at_call 99; with_reducible refine (hR3.out.wrong hG0.out HQ2.out).mono ?_; rintro e w4 ⟨rfl, hR4⟩; have hc4 := hR4.cell1; have HR4 := Lib.hid hR4; clear hR4) | (go_at_call 99; with_reducible refine (HR4.out.wrong hG0.out HPP.out).mono ?_; rintro e w6 ⟨rfl, hR6⟩; have p0 := (blk_cell hR6.res 0).trans rfl; have p1 := (blk_cell hR6.res 1).trans rfl; have p2 := (blk_cell hR6.res 2).trans rfl; have q0 := blk_frozen hR6.res 0; have q1 := blk_frozen hR6.res 1; have q2 := blk_frozen hR6.res 2; have HR6 := Lib.hid hR6; clear hR6))
        obtain ⟨z0, z1, z2, z3⟩ := HR6.out.ret (Nat.le_refl _) HW0.out (.string ⟨#[]⟩) (.int .i64 0) (.bool false)
        refine bodyPost_ret (results_cell_row rfl _ _ w.heap.size 98 #[.string ⟨#[]⟩, .int .i64 0, .bool false] (0, 0) _ rfl z0 Tryz.underlying98 rfl (by kernel_rfl)) rfl ?_
        exact ⟨rfl, z1, z2, z3⟩
      · by_cases c1 : n = qb.size
        · have k0 : d.toList.isEmpty = false := (HD0.out _).2 (decide_eq_false c0)
          have k1 : rest.toList.isEmpty = true := (HR0.out _).2 (decide_eq_true c1)
          have HE := HH.out; rw [if_pos (by exact .inr (.inl c1))] at HE; obtain ⟨p, hp, HE⟩ := Option.bind_eq_some_iff.1 HE; obtain ⟨rfl, rfl, rfl, rfl, rfl, rfl, rfl⟩ := by simpa only [Option.some.injEq, Prod.mk.injEq] using HE
          have HPP := Lib.hid hp; clear HE HH hp
          have HC0 := Lib.hid c0; have HC1 := Lib.hid c1; clear c0 c1
          go_wp2_with (first | (go_at_call 125; refine (strings_HasPrefix.calls _ _ _ _ (hG0.out.below hR2.out.bel) HP.out).mono ?_; rintro e w3 ⟨rfl, ⟨n3, rfl⟩⟩; have hR3 := Lib.hid (hR2.out.below (Drawn0.below (Drawn0.step (Drawn0.refl w2) n3)))) | (go_at_call 99; with_reducible refine (hR3.out.wrong hG0.out HQ2.out).mono ?_; rintro e w4 ⟨rfl, hR4⟩; have hc4 := hR4.cell1; have HR4 := Lib.hid hR4; clear hR4) | (go_at_call 99; with_reducible refine (HR4.out.wrong hG0.out HPP.out).mono ?_; rintro e w6 ⟨rfl, hR6⟩; have p0 := (blk_cell hR6.res 0).trans rfl; have p1 := (blk_cell hR6.res 1).trans rfl; have p2 := (blk_cell hR6.res 2).trans rfl; have q0 := blk_frozen hR6.res 0; have q1 := blk_frozen hR6.res 1; have q2 := blk_frozen hR6.res 2; have HR6 := Lib.hid hR6; clear hR6))
          obtain ⟨z0, z1, z2, z3⟩ := HR6.out.ret (Nat.le_refl _) HW0.out (.string ⟨#[]⟩) (.int .i64 0) (.bool false)
          refine bodyPost_ret (results_cell_row rfl _ _ w.heap.size 98 #[.string ⟨#[]⟩, .int .i64 0, .bool false] (0, 0) _ rfl z0 Tryz.underlying98 rfl (by kernel_rfl)) rfl ?_
          exact ⟨rfl, z1, z2, z3⟩
        · by_cases c2 : x = 93
          · have k0 : d.toList.isEmpty = false := (HD0.out _).2 (decide_eq_false c0)
            have k1 : rest.toList.isEmpty = false := (HR0.out _).2 (decide_eq_false c1)
            have k2 : 0 < rest.size := by have := HRS.out; omega
            have k3 := HX0.out
            have k6 : ((x : Int) == 93) = true := by rw [c2]; rfl
            have k7 : ((x : Int) != 93) = false := by rw [c2]; rfl
            have k5 : (n : Int) + 1 ≤ (qb.size : Int) := by omega
            have HE := HH.out; rw [if_neg (by rintro (e | e | e) <;> omega), ← HDS.out] at HE; obtain ⟨rfl, rfl, rfl, rfl, rfl, rfl, rfl⟩ := by simpa only [Option.some.injEq, Prod.mk.injEq] using HE
            clear HE HH
            have HC0 := Lib.hid c0; have HC1 := Lib.hid c1; have HC2 := Lib.hid c2; clear c0 c1 c2
            go_wp2_with (first | (go_at_call 125; refine (strings_HasPrefix.calls _ _ _ _ (hG0.out.below hR2.out.bel) HP.out).mono ?_; rintro e w3 ⟨rfl, ⟨n3, rfl⟩⟩; have hR3 := Lib.hid (hR2.out.below (Drawn0.below (Drawn0.step (Drawn0.refl w2) n3)))) | (go_at_call 99; with_reducible refine (hR3.out.wrong hG0.out HQ2.out).mono ?_; rintro e w4 ⟨rfl, hR4⟩; have hc4 := hR4.cell1; have HR4 := Lib.hid hR4; clear hR4) | (go_at_call 126; refine (atoi_num _ _ (hG0.out.below HR4.out.bel) (by have := HDN.out; omega)).mono ?_; rintro e w5 ⟨err, rfl, hb5⟩; have hR5 := Lib.hid (HR4.out.below hb5); have hc5 := hR5.out.cell1; have hf5 := blk_frozen hR5.out.is.1 1; have hR6 := Lib.hid (hR5.out.set1 (qb.extract (n + 1) qb.size)); have p0 := (blk_cell hR6.out.res 0).trans rfl; have p1 := (blk_cell hR6.out.res 1).trans rfl; have p2 := (blk_cell hR6.out.res 2).trans rfl; have q0 := blk_frozen hR6.out.res 0; have q1 := blk_frozen hR6.out.res 1; have q2 := blk_frozen hR6.out.res 2))
            obtain ⟨z0, z1, z2, z3⟩ := hR6.out.ret (Nat.le_refl _) HW0.out (.string ⟨#[]⟩) (.int .i64 (numOf d.data.toList)) (.bool true)
            refine bodyPost_ret (results_cell_row rfl _ _ w.heap.size 98 #[.string ⟨#[]⟩, .int .i64 (numOf d.data.toList), .bool true] (0, 0) _ rfl z0 Tryz.underlying98 rfl (by kernel_rfl)) rfl ?_
            exact ⟨rfl, z1, z2, z3⟩
          · have k0 : d.toList.isEmpty = false := (HD0.out _).2 (decide_eq_false c0)
            have k1 : rest.toList.isEmpty = false := (HR0.out _).2 (decide_eq_false c1)
            have k2 : 0 < rest.size := by have := HRS.out; omega
            have k3 := HX0.out
            have k6 : ((x : Int) == 93) = false := by rw [beq_eq_false_iff_ne]; omega
            have k7 : ((x : Int) != 93) = true := by rw [bne_iff_ne]; omega
            have HE := HH.out; rw [if_pos (by exact .inr (.inr c2))] at HE; obtain ⟨p, hp, HE⟩ := Option.bind_eq_some_iff.1 HE; obtain ⟨rfl, rfl, rfl, rfl, rfl, rfl, rfl⟩ := by simpa only [Option.some.injEq, Prod.mk.injEq] using HE
            have HPP := Lib.hid hp; clear HE HH hp
            have HC0 := Lib.hid c0; have HC1 := Lib.hid c1; have HC2 := Lib.hid c2; clear c0 c1 c2
            go_wp2_with (first | (go_at_call 125; refine (strings_HasPrefix.calls _ _ _ _ (hG0.out.below hR2.out.bel) HP.out).mono ?_; rintro e w3 ⟨rfl, ⟨n3, rfl⟩⟩; have hR3 := Lib.hid (hR2.out.below (Drawn0.below (Drawn0.step (Drawn0.refl w2) n3)))) | (go_at_call 99; with_reducible refine (hR3.out.wrong hG0.out HQ2.out).mono ?_; rintro e w4 ⟨rfl, hR4⟩; have hc4 := hR4.cell1; have HR4 := Lib.hid hR4; clear hR4) | (go_at_call 99; with_reducible refine (HR4.out.wrong hG0.out HPP.out).mono ?_; rintro e w6 ⟨rfl, hR6⟩; have p0 := (blk_cell hR6.res 0).trans rfl; have p1 := (blk_cell hR6.res 1).trans rfl; have p2 := (blk_cell hR6.res 2).trans rfl; have q0 := blk_frozen hR6.res 0; have q1 := blk_frozen hR6.res 1; have q2 := blk_frozen hR6.res 2; have HR6 := Lib.hid hR6; clear hR6))
            obtain ⟨z0, z1, z2, z3⟩ := HR6.out.ret (Nat.le_refl _) HW0.out (.string ⟨#[]⟩) (.int .i64 0) (.bool false)
            refine bodyPost_ret (results_cell_row rfl _ _ w.heap.size 98 #[.string ⟨#[]⟩, .int .i64 0, .bool false] (0, 0) _ rfl z0 Tryz.underlying98 rfl (by kernel_rfl)) rfl ?_
            exact ⟨rfl, z1, z2, z3⟩
    · have hq1 : q = (s0_0, s0_1, s0_2, s0_3) := by have := HQ.out; rw [if_neg (by omega)] at this; exact (Option.some.inj this).symm
      subst hq1
      have k4 : decide ((n : Int) > 6) = false := decide_eq_false (by omega)
      have HCM := Lib.hid cm; clear cm
      by_cases c0 : n = 0
      · have k0 : d.toList.isEmpty = true := (HD0.out _).2 (decide_eq_true c0)
        have HE := HH.out; rw [if_pos (by exact .inl c0)] at HE; obtain ⟨p, hp, HE⟩ := Option.bind_eq_some_iff.1 HE; obtain ⟨rfl, rfl, rfl, rfl, rfl, rfl, rfl⟩ := by simpa only [Option.some.injEq, Prod.mk.injEq] using HE
        have HPP := Lib.hid hp; clear HE HH hp
        have HC0 := Lib.hid c0; clear c0
        go_wp2_with (first | (go_at_call 125; refine (strings_HasPrefix.calls _ _ _ _ (hG0.out.below hR2.out.bel) HP.out).mono ?_; rintro e w3 ⟨rfl, ⟨n3, rfl⟩⟩; have hR3 := Lib.hid (hR2.out.below (Drawn0.below (Drawn0.step (Drawn0.refl w2) n3)))) | (go_at_call 99; with_reducible refine (hR3.out.wrong hG0.out HPP.out).mono ?_; rintro e w6 ⟨rfl, hR6⟩; have p0 := (blk_cell hR6.res 0).trans rfl; have p1 := (blk_cell hR6.res 1).trans rfl; have p2 := (blk_cell hR6.res 2).trans rfl; have q0 := blk_frozen hR6.res 0; have q1 := blk_frozen hR6.res 1; have q2 := blk_frozen hR6.res 2; have HR6 := Lib.hid hR6; clear hR6))
        obtain ⟨z0, z1, z2, z3⟩ := HR6.out.ret (Nat.le_refl _) HW0.out (.string ⟨#[]⟩) (.int .i64 0) (.bool false)
        refine bodyPost_ret (results_cell_row rfl _ _ w.heap.size 98 #[.string ⟨#[]⟩, .int .i64 0, .bool false] (0, 0) _ rfl z0 Tryz.underlying98 rfl (by kernel_rfl)) rfl ?_
        exact ⟨rfl, z1, z2, z3⟩
      · by_cases c1 : n = s0_1.size
        · have k0 : d.toList.isEmpty = false := (HD0.out _).2 (decide_eq_false c0)
          have k1 : rest.toList.isEmpty = true := (HR0.out _).2 (decide_eq_true c1)
          have HE := HH.out; rw [if_pos (by exact .inr (.inl c1))] at HE; obtain ⟨p, hp, HE⟩ := Option.bind_eq_some_iff.1 HE; obtain ⟨rfl, rfl, rfl, rfl, rfl, rfl, rfl⟩ := by simpa only [Option.some.injEq, Prod.mk.injEq] using HE
          have HPP := Lib.hid hp; clear HE HH hp
          have HC0 := Lib.hid c0; have HC1 := Lib.hid c1; clear c0 c1
          go_wp2_with (first | (go_at_call 125; refine (strings_HasPrefix.calls _ _ _ _ (hG0.out.below hR2.out.bel) HP.out).mono ?_; rintro e w3 ⟨rfl, ⟨n3, rfl⟩⟩; have hR3 := Lib.hid (hR2.out.below (Drawn0.below (Drawn0.step (Drawn0.refl w2) n3)))) | (go_at_call 99; with_reducible refine (hR3.out.wrong hG0.out HPP.out).mono ?_; rintro e w6 ⟨rfl, hR6⟩; have p0 := (blk_cell hR6.res 0).trans rfl; have p1 := (blk_cell hR6.res 1).trans rfl; have p2 := (blk_cell hR6.res 2).trans rfl; have q0 := blk_frozen hR6.res 0; have q1 := blk_frozen hR6.res 1; have q2 := blk_frozen hR6.res 2; have HR6 := Lib.hid hR6; clear hR6))
          obtain ⟨z0, z1, z2, z3⟩ := HR6.out.ret (Nat.le_refl _) HW0.out (.string ⟨#[]⟩) (.int .i64 0) (.bool false)
          refine bodyPost_ret (results_cell_row rfl _ _ w.heap.size 98 #[.string ⟨#[]⟩, .int .i64 0, .bool false] (0, 0) _ rfl z0 Tryz.underlying98 rfl (by kernel_rfl)) rfl ?_
          exact ⟨rfl, z1, z2, z3⟩
        · by_cases c2 : x = 93
          · have k0 : d.toList.isEmpty = false := (HD0.out _).2 (decide_eq_false c0)
            have k1 : rest.toList.isEmpty = false := (HR0.out _).2 (decide_eq_false c1)
            have k2 : 0 < rest.size := by have := HRS.out; omega
            have k3 := HX0.out
            have k6 : ((x : Int) == 93) = true := by rw [c2]; rfl
            have k7 : ((x : Int) != 93) = false := by rw [c2]; rfl
            have k5 : (n : Int) + 1 ≤ (s0_1.size : Int) := by omega
            have HE := HH.out; rw [if_neg (by rintro (e | e | e) <;> omega), ← HDS.out] at HE; obtain ⟨rfl, rfl, rfl, rfl, rfl, rfl, rfl⟩ := by simpa only [Option.some.injEq, Prod.mk.injEq] using HE
            clear HE HH
            have HC0 := Lib.hid c0; have HC1 := Lib.hid c1; have HC2 := Lib.hid c2; clear c0 c1 c2
            go_wp2_with (first | (go_at_call 125; refine (strings_HasPrefix.calls _ _ _ _ (hG0.out.below hR2.out.bel) HP.out).mono ?_; rintro e w3 ⟨rfl, ⟨n3, rfl⟩⟩; have hR3 := Lib.hid (hR2.out.below (Drawn0.below (Drawn0.step (Drawn0.refl w2) n3)))) | (go_at_call 126; refine (atoi_num _ _ (hG0.out.below hR3.out.bel) (by have := HDN.out; omega)).mono ?_; rintro e w5 ⟨err, rfl, hb5⟩; have hR5 := Lib.hid (hR3.out.below hb5); have hc5 := hR5.out.cell1; have hf5 := blk_frozen hR5.out.is.1 1; have hR6 := Lib.hid (hR5.out.set1 (s0_1.extract (n + 1) s0_1.size)); have p0 := (blk_cell hR6.out.res 0).trans rfl; have p1 := (blk_cell hR6.out.res 1).trans rfl; have p2 := (blk_cell hR6.out.res 2).trans rfl; have q0 := blk_frozen hR6.out.res 0; have q1 := blk_frozen hR6.out.res 1; have q2 := blk_frozen hR6.out.res 2))
            obtain ⟨z0, z1, z2, z3⟩ := hR6.out.ret (Nat.le_refl _) HW0.out (.string ⟨#[]⟩) (.int .i64 (numOf d.data.toList)) (.bool true)
            refine bodyPost_ret (results_cell_row rfl _ _ w.heap.size 98 #[.string ⟨#[]⟩, .int .i64 (numOf d.data.toList), .bool true] (0, 0) _ rfl z0 Tryz.underlying98 rfl (by kernel_rfl)) rfl ?_
            exact ⟨rfl, z1, z2, z3⟩
          · have k0 : d.toList.isEmpty = false := (HD0.out _).2 (decide_eq_false c0)
            have k1 : rest.toList.isEmpty = false := (HR0.out _).2 (decide_eq_false c1)
            have k2 : 0 < rest.size := by have := HRS.out; omega
            have k3 := HX0.out
            have k6 : ((x : Int) == 93) = false := by rw [beq_eq_false_iff_ne]; omega
            have k7 : ((x : Int) != 93) = true := by rw [bne_iff_ne]; omega
            have HE := HH.out; rw [if_pos (by exact .inr (.inr c2))] at HE; obtain ⟨p, hp, HE⟩ := Option.bind_eq_some_iff.1 HE; obtain ⟨rfl, rfl, rfl, rfl, rfl, rfl, rfl⟩ := by simpa only [Option.some.injEq, Prod.mk.injEq] using HE
            have HPP := Lib.hid hp; clear HE HH hp
            have HC0 := Lib.hid c0; have HC1 := Lib.hid c1; have HC2 := Lib.hid c2; clear c0 c1 c2
            go_wp2_with (first | (go_at_call 125; refine (strings_HasPrefix.calls _ _ _ _ (hG0.out.below hR2.out.bel) HP.out).mono ?_; rintro e w3 ⟨rfl, ⟨n3, rfl⟩⟩; have hR3 := Lib.hid (hR2.out.below (Drawn0.below (Drawn0.step (Drawn0.refl w2) n3)))) | (go_at_call 99; with_reducible refine (hR3.out.wrong hG0.out HPP.out).mono ?_; rintro e w6 ⟨rfl, hR6⟩; have p0 := (blk_cell hR6.res 0).trans rfl; have p1 := (blk_cell hR6.res 1).trans rfl; have p2 := (blk_cell hR6.res 2).trans rfl; have q0 := blk_frozen hR6.res 0; have q1 := blk_frozen hR6.res 1; have q2 := blk_frozen hR6.res 2; have HR6 := Lib.hid hR6; clear hR6))
            obtain ⟨z0, z1, z2, z3⟩ := HR6.out.ret (Nat.le_refl _) HW0.out (.string ⟨#[]⟩) (.int .i64 0) (.bool false)
            refine bodyPost_ret (results_cell_row rfl _ _ w.heap.size 98 #[.string ⟨#[]⟩, .int .i64 0, .bool false] (0, 0) _ rfl z0 Tryz.underlying98 rfl (by kernel_rfl)) rfl ?_
            exact ⟨rfl, z1, z2, z3⟩
end Go.Proofs.YtiooacmplmcphaaGreatDoor.Plug

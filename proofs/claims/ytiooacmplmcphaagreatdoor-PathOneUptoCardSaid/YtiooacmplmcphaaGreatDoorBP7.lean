/- Texts that stand behind one another, laid into one: what this claim needs of them. -/
import Derived.Test.YtiooacmplmcphaaGreatDoorBP0
import Derived.Test.YtiooacmplmcphaaGreatDoorBP1
import Derived.Test.YtiooacmplmcphaaGreatDoorBP3
import Derived.Test.YtiooacmplmcphaaGreatDoorBP4
import Derived.Test.YtiooacmplmcphaaGreatDoorBP2
namespace Go.Proofs.YtiooacmplmcphaaGreatDoor.PX
open RowKit YtiooacmplmcphaaGreatDoorW.PrintWords YtiooacmplmcphaaGreatDoorW.PrintLast YtiooacmplmcphaaGreatDoorW.PrintMore YtiooacmplmcphaaGreatDoor YtiooacmplmcphaaGreatDoor.Plug
attribute [local go_sem] max2_int min2_int max_two min_two max_three min_three max_four min_four   -- for this text's walks alone
set_option linter.unusedVariables false
set_option linter.unusedSimpArgs false
mutual
def grommetlaw16_PathOne.j0 : Nat → Bool → List (S45) → Int → ByteArray → Int → Bool → Option (Bool)
  | 0, _, _, _, _, _, _ => none
  | k + 1, x24, x102000, x102001, x103000, x103001, x103002 => if x24 = true then ((grommetlaw16_alive.f).bind fun t105 => (some t105)) else ((grommetlaw16_theirs.f k (([(⟨x103000, x103001, x103002⟩ : S58)] : List (S58)))).bind fun t109 => ((path_Get.f k x102000 x102001 t109).bind fun bt112 => (if bt112.2 = 1 then ((grommetlaw16_theirs.f k (([(⟨x103000, x103001, x103002⟩ : S58)] : List (S58)))).bind fun t117 => ((path_Format.f t117).bind fun bt120 => (if bt120.2 = 0 then (some false) else ((grommetlaw16_alive.f).bind fun t122 => (some t122))))) else (if 0 ≤ x102001 then (if x102001 < (x102000.length : Int) then (if x103002 = true then (if ((rd_T45 x102000 x102001).f0) = 5 then (if x103001 < (((rd_T45 x102000 x102001).f2).length : Int) then (if bt112.2 = 0 then (if 0 ≤ x103001 then (if bt112.1 = (rd ((rd_T45 x102000 x102001).f2) x103001) then ((grommetlaw16_alive.f).bind fun t127 => (some t127)) else (some false)) else (none)) else (some false)) else (if bt112.2 = 6 then ((grommetlaw16_alive.f).bind fun t128 => (some t128)) else (some false))) else (if bt112.2 = 17 then ((grommetlaw16_alive.f).bind fun t125 => (some t125)) else (some false))) else (if ((rd_T45 x102000 x102001).f0) = 6 then (grommetlaw16_PathOne.l0 k bt112.1 bt112.2 0 x102000 x102001 x103000 x103001 x103002 ((rd_T45 x102000 x102001).f0) ((rd_T45 x102000 x102001).f1) ((rd_T45 x102000 x102001).f2)) else (if bt112.2 = 17 then ((grommetlaw16_alive.f).bind fun t129 => (some t129)) else (some false)))) else (none)) else (none)))))
def grommetlaw16_PathOne.l0 : Nat → Int → Int → Int → List (S45) → Int → ByteArray → Int → Bool → Int → ByteArray → List Int → Option (Bool)
  | 0, _, _, _, _, _, _, _, _, _, _, _ => none
  | k + 1, x5, x6, x10, x102000, x102001, x103000, x103001, x103002, x125000, x125001, x125002 => if (wrap64 (x10 + 1)) < (x125002.length : Int) then (if 0 ≤ x10 then (if x10 < (x125002.length : Int) then (if 0 ≤ (rd x125002 x10) then (if (rd x125002 x10) < (x102000.length : Int) then (if ((rd_T45 x102000 (rd x125002 x10)).f0) = 4 then (if ((rd_T45 x102000 (rd x125002 x10)).f1).toList = x103000.toList then (if x6 = 0 then (if 0 ≤ (wrap64 (x10 + 1)) then (if x5 = (rd x125002 (wrap64 (x10 + 1))) then ((grommetlaw16_alive.f).bind fun t134 => (some t134)) else (some false)) else (none)) else (some false)) else (grommetlaw16_PathOne.l0 k x5 x6 (wrap64 (x10 + 2)) x102000 x102001 x103000 x103001 x103002 x125000 x125001 x125002)) else (grommetlaw16_PathOne.l0 k x5 x6 (wrap64 (x10 + 2)) x102000 x102001 x103000 x103001 x103002 x125000 x125001 x125002)) else (none)) else (none)) else (none)) else (none)) else (if x6 = 6 then ((grommetlaw16_alive.f).bind fun t135 => (some t135)) else (some false))
end
def grommetlaw16_PathOne.f (k : Nat) (l0_0 : List (S45)) (a0_1 : Int) (a1_0 : ByteArray) (a1_1 : Int) (a1_2 : Bool) : Option (Bool) := (grommetlaw16_large.f k l0_0 a0_1).bind fun t103 => (if t103 = true then (grommetlaw16_PathOne.j0 k true l0_0 a0_1 a1_0 a1_1 a1_2) else ((graph_Right.f l0_0 a0_1).bind fun t104 => (if t104 = true then (grommetlaw16_PathOne.j0 k (decide ((a1_0.size : Int) > 300)) l0_0 a0_1 a1_0 a1_1 a1_2) else (grommetlaw16_PathOne.j0 k true l0_0 a0_1 a1_0 a1_1 a1_2))))
def grommetlaw16_PathOne.T3 : Bool × List (List Nat × List Nat) := (true, [([], []), ([], []), ([1], [1]), ([2], [2]), ([0, 3, 3], [0, 3]), ([4], [4]), ([5], [5]), ([5], [5]), ([6, 4, 0, 1, 2, 3, 4, 5, 6], [6]), ([7, 8, 0, 1, 2, 3, 4, 5, 6, 7, 8], [7])])
def grommetlaw16_PathOne.B3 : List Nat := [0, 0, 2, 6, 15, 31, 63, 63, 127, 511]
theorem grommetlaw16_PathOne.tab3 : rtab .any (opsOf Tryz.f8 3) = grommetlaw16_PathOne.T3 := by kernel_rfl
theorem grommetlaw16_PathOne.bits3 : waitsOk grommetlaw16_PathOne.T3.2 grommetlaw16_PathOne.B3 = true := by kernel_rfl
def grommetlaw16_PathOne.T19 : Bool × List (List Nat × List Nat) := (true, [([], []), ([0], [0]), ([], []), ([2], [2]), ([], []), ([3, 4], [3, 4]), ([5], [5]), ([1, 6], [1, 6]), ([7], [7]), ([], []), ([9, 8, 0, 1, 2, 3, 4, 5, 6, 7, 8, 9], [8, 9])])
def grommetlaw16_PathOne.B19 : List Nat := [0, 1, 0, 4, 0, 28, 60, 127, 255, 0, 1023]
theorem grommetlaw16_PathOne.tab19 : rtab .any (opsOf Tryz.f8 19) = grommetlaw16_PathOne.T19 := by kernel_rfl
theorem grommetlaw16_PathOne.bits19 : waitsOk grommetlaw16_PathOne.T19.2 grommetlaw16_PathOne.B19 = true := by kernel_rfl
theorem qk_ {P : Prop} (h_ : P := by kernel_rfl) : P := h_
theorem qA_ {p : Prop} (h_ : p) : Aside0 p := ⟨h_⟩
theorem qzz0_ {P : Prop} (h_ : P := by repeat (first | (with_reducible first | exact HB.out | apply below_alloc | apply pw_below_drewN | apply below_drew1 | refine below_set ?_ GE101.out | refine below_set ?_ GE102.out) | exact HB.out)) : P := h_
theorem qzz1_ {P : Prop} (h_ : P := by (with_reducible repeat (first | refine blk_drewN ?_ _ | refine blk_drew ?_ | refine blk_alloc ?_ _)); exact za.out) : P := h_
theorem qzz2_ {P : Prop} (h_ : P := by first | ((repeat (first | (with_reducible first | exact HB.out | apply below_alloc | apply pw_below_drewN | apply below_drew1 | (refine Glob.below_set ?_ (by assumption) _ _ _)) | exact HB.out)); done) | (refine Drawn0.below ?_; repeat (first | exact Drawn0.refl _ | assumption | apply Drawn0.step))) : P := h_
theorem qzz3_ {P : Prop} (h_ : P := by (with_reducible repeat (first | refine blk_drewN ?_ _ | refine blk_drew ?_ | refine blk_alloc ?_ _)); exact zd.out) : P := h_
theorem qzz4_ {P : Prop} (h_ : P := by first | exact Nat.ne_of_lt (Nat.lt_of_lt_of_le (by have := World.block_lt_of_cell? _ _ yf; first | rwa [add_block] at this | exact this) yo.out) | (rw [add_block]; exact Nat.ne_of_lt (Nat.lt_of_lt_of_le (by have := World.block_lt_of_cell? _ _ yf; first | rwa [add_block] at this | exact this) yo.out)) | (show (Addr.add _ _).block ≠ _; rw [add_block]; exact Nat.ne_of_lt (Nat.lt_of_lt_of_le (by have := World.block_lt_of_cell? _ _ yf; first | rwa [add_block] at this | exact this) yo.out)) | (dsimp only; exact Nat.ne_of_lt (Nat.lt_of_lt_of_le (by have := World.block_lt_of_cell? _ _ yf; first | rwa [add_block] at this | exact this) yo.out))) : P := h_
theorem qzz5_ {P : Prop} (h_ : P := by first | exact Nat.ne_of_lt (Nat.lt_of_lt_of_le (by have := World.block_lt_of_cell? _ _ yg; first | rwa [add_block] at this | exact this) yo.out) | (rw [add_block]; exact Nat.ne_of_lt (Nat.lt_of_lt_of_le (by have := World.block_lt_of_cell? _ _ yg; first | rwa [add_block] at this | exact this) yo.out)) | (show (Addr.add _ _).block ≠ _; rw [add_block]; exact Nat.ne_of_lt (Nat.lt_of_lt_of_le (by have := World.block_lt_of_cell? _ _ yg; first | rwa [add_block] at this | exact this) yo.out)) | (dsimp only; exact Nat.ne_of_lt (Nat.lt_of_lt_of_le (by have := World.block_lt_of_cell? _ _ yg; first | rwa [add_block] at this | exact this) yo.out))) : P := h_
theorem qzz6_ {P : Prop} (h_ : P := by first | exact Nat.ne_of_lt (Nat.lt_of_lt_of_le (by have := World.block_lt_of_cell? _ _ yh; first | rwa [add_block] at this | exact this) yo.out) | (rw [add_block]; exact Nat.ne_of_lt (Nat.lt_of_lt_of_le (by have := World.block_lt_of_cell? _ _ yh; first | rwa [add_block] at this | exact this) yo.out)) | (show (Addr.add _ _).block ≠ _; rw [add_block]; exact Nat.ne_of_lt (Nat.lt_of_lt_of_le (by have := World.block_lt_of_cell? _ _ yh; first | rwa [add_block] at this | exact this) yo.out)) | (dsimp only; exact Nat.ne_of_lt (Nat.lt_of_lt_of_le (by have := World.block_lt_of_cell? _ _ yh; first | rwa [add_block] at this | exact this) yo.out))) : P := h_
theorem qzz7_ {P : Prop} (h_ : P := by first | exact Nat.ne_of_lt (Nat.lt_of_lt_of_le (by have := World.block_lt_of_cell? _ _ yi; first | rwa [add_block] at this | exact this) yo.out) | (rw [add_block]; exact Nat.ne_of_lt (Nat.lt_of_lt_of_le (by have := World.block_lt_of_cell? _ _ yi; first | rwa [add_block] at this | exact this) yo.out)) | (show (Addr.add _ _).block ≠ _; rw [add_block]; exact Nat.ne_of_lt (Nat.lt_of_lt_of_le (by have := World.block_lt_of_cell? _ _ yi; first | rwa [add_block] at this | exact this) yo.out)) | (dsimp only; exact Nat.ne_of_lt (Nat.lt_of_lt_of_le (by have := World.block_lt_of_cell? _ _ yi; first | rwa [add_block] at this | exact this) yo.out))) : P := h_
theorem qzz8_ {P : Prop} (h_ : P := by repeat (first | (with_reducible first | exact HB.out | apply below_alloc | apply pw_below_drewN | apply below_drew1 | refine below_set ?_ GE101.out | refine below_set ?_ GE102.out | refine below_set ?_ yy.out) | exact HB.out)) : P := h_
theorem qzz9_ {P : Prop} (h_ : P := by (with_reducible repeat (first | apply Kd.R_alloc | apply Kd.R_drewN | apply Kd.R_drew)); exact zr.out) : P := h_
theorem qzz10_ {P : Prop} (h_ : P := by (try simp only [List.map_toArray, List.map_cons, List.map_nil]); first | done | rfl | (simp only [List.length_drop, List.length_take]; rfl)) : P := h_
theorem qzz11_ {P : Prop} (h_ : P := by (with_reducible repeat (first | refine blk_drewN ?_ _ | refine blk_drew ?_ | refine blk_alloc ?_ _)); refine blk_put (cs := #[.int .i64 ((rd_T45 zb zc).f0), .string ((rd_T45 zb zc).f1), .slice none 0 0]) ?_ 2 _ rfl; (with_reducible repeat (first | refine blk_drewN ?_ _ | refine blk_drew ?_ | refine blk_alloc ?_ _)); refine blk_put (cs := #[.int .i64 ((rd_T45 zb zc).f0), .string (⟨#[]⟩ : ByteArray), .slice none 0 0]) ?_ 1 _ rfl; (with_reducible repeat (first | refine blk_drewN ?_ _ | refine blk_drew ?_ | refine blk_alloc ?_ _)); refine blk_put (cs := #[.int .i64 0, .string (⟨#[]⟩ : ByteArray), .slice none 0 0]) ?_ 0 _ rfl; (with_reducible repeat (first | refine blk_drewN ?_ _ | refine blk_drew ?_ | refine blk_alloc ?_ _)); exact zi.out) : P := h_
theorem qzz12_ {P : Prop} (h_ : P := by (with_reducible repeat (first | apply Kd.R_alloc | apply Kd.R_drewN | apply Kd.R_drew)); exact ya.out) : P := h_
theorem qzz13_ {P : Prop} (h_ : P := by first | (with_reducible assumption) | assumption) : P := h_
theorem qzz14_ {P : Prop} (h_ : P := by (with_reducible repeat (first | refine blk_drewN ?_ _ | refine blk_drew ?_ | refine blk_alloc ?_ _)); refine blk_far ?_ zs.out _; (with_reducible repeat (first | refine blk_drewN ?_ _ | refine blk_drew ?_ | refine blk_alloc ?_ _)); refine blk_far ?_ zs.out _; (with_reducible repeat (first | refine blk_drewN ?_ _ | refine blk_drew ?_ | refine blk_alloc ?_ _)); refine blk_far ?_ zs.out _; (with_reducible repeat (first | refine blk_drewN ?_ _ | refine blk_drew ?_ | refine blk_alloc ?_ _)); exact za.out) : P := h_
theorem qzz15_ {P : Prop} (h_ : P := by (with_reducible repeat (first | refine blk_drewN ?_ _ | refine blk_drew ?_ | refine blk_alloc ?_ _)); refine blk_far ?_ zt.out _; (with_reducible repeat (first | refine blk_drewN ?_ _ | refine blk_drew ?_ | refine blk_alloc ?_ _)); refine blk_far ?_ zt.out _; (with_reducible repeat (first | refine blk_drewN ?_ _ | refine blk_drew ?_ | refine blk_alloc ?_ _)); refine blk_far ?_ zt.out _; (with_reducible repeat (first | refine blk_drewN ?_ _ | refine blk_drew ?_ | refine blk_alloc ?_ _)); exact zd.out) : P := h_
theorem qzz16_ {P : Prop} (h_ : P := by (with_reducible repeat (first | refine blk_drewN ?_ _ | refine blk_drew ?_ | refine blk_alloc ?_ _)); exact zi.out) : P := h_
theorem qzz17_ {P : Prop} (h_ : P := by repeat (first | (with_reducible first | exact HB.out | apply below_alloc | apply pw_below_drewN | apply below_drew1 | refine below_set ?_ GE101.out | refine below_set ?_ GE102.out | refine below_set ?_ yy.out | refine below_set ?_ GE132.out) | exact HB.out)) : P := h_
theorem qzz18_ {P : Prop} (h_ : P := by first | rfl | (simp [errW_none, errW_some] <;> rfl) | (simp [*, errW_none, errW_some] <;> rfl)) : P := h_
theorem qzz19_ {P : Prop} (h_ : P := by (with_reducible repeat (first | refine blk_drewN ?_ _ | refine blk_drew ?_ | refine blk_alloc ?_ _)); refine blk_far ?_ zl.out _; (with_reducible repeat (first | refine blk_drewN ?_ _ | refine blk_drew ?_ | refine blk_alloc ?_ _)); refine blk_far ?_ zl.out _; (with_reducible repeat (first | refine blk_drewN ?_ _ | refine blk_drew ?_ | refine blk_alloc ?_ _)); refine blk_far ?_ zl.out _; (with_reducible repeat (first | refine blk_drewN ?_ _ | refine blk_drew ?_ | refine blk_alloc ?_ _)); exact zi.out) : P := h_
theorem qzz20_ {P : Prop} (h_ : P := by (with_reducible repeat (first | refine blk_drewN ?_ _ | refine blk_drew ?_ | refine blk_alloc ?_ _)); refine blk_far ?_ zx.out _; (with_reducible repeat (first | refine blk_drewN ?_ _ | refine blk_drew ?_ | refine blk_alloc ?_ _)); refine blk_far ?_ zx.out _; (with_reducible repeat (first | refine blk_drewN ?_ _ | refine blk_drew ?_ | refine blk_alloc ?_ _)); refine blk_far ?_ zx.out _; (with_reducible repeat (first | refine blk_drewN ?_ _ | refine blk_drew ?_ | refine blk_alloc ?_ _)); exact za.out) : P := h_
theorem qzz21_ {P : Prop} (h_ : P := by (with_reducible repeat (first | refine blk_drewN ?_ _ | refine blk_drew ?_ | refine blk_alloc ?_ _)); refine blk_far ?_ zn.out _; (with_reducible repeat (first | refine blk_drewN ?_ _ | refine blk_drew ?_ | refine blk_alloc ?_ _)); refine blk_far ?_ zn.out _; (with_reducible repeat (first | refine blk_drewN ?_ _ | refine blk_drew ?_ | refine blk_alloc ?_ _)); refine blk_far ?_ zn.out _; (with_reducible repeat (first | refine blk_drewN ?_ _ | refine blk_drew ?_ | refine blk_alloc ?_ _)); exact zd.out) : P := h_
theorem qzz22_ {P : Prop} (h_ : P := by (with_reducible repeat (first | apply Kd.R_alloc | apply Kd.R_drewN | apply Kd.R_drew)); exact (Kd.R_mono (Kd.R_far (p := ⟨zh, 2, none⟩) (Kd.R_far (p := ⟨zh, 1, none⟩) (Kd.R_far (p := ⟨zh, 0, none⟩) (Kd.R_types ya.out zi.out (by decide)) (fun _ hk => hk.2) (.int .i64 ((rd_T45 zb zc).f0))) (fun _ hk => hk.2) (.string ((rd_T45 zb zc).f1))) (fun _ hk => hk.2) (.slice ym ((rd_T45 zb zc).f2).length zu)) (fun _ h_ => h_.1))) : P := h_
theorem qzz23_ {P : Prop} (h_ : P := by (with_reducible repeat (first | apply Kd.R_alloc | apply Kd.R_drewN | apply Kd.R_drew)); exact (Kd.R_mono (Kd.R_far (p := ⟨zh, 2, none⟩) (Kd.R_far (p := ⟨zh, 1, none⟩) (Kd.R_far (p := ⟨zh, 0, none⟩) (Kd.R_types zr.out zi.out (by decide)) (fun _ hk => hk.2) (.int .i64 ((rd_T45 zb zc).f0))) (fun _ hk => hk.2) (.string ((rd_T45 zb zc).f1))) (fun _ hk => hk.2) (.slice ym ((rd_T45 zb zc).f2).length zu)) (fun _ h_ => h_.1))) : P := h_
theorem qzz24_ {P : Prop} (h_ : P := by have := World.block_lt_of_cell? _ _ hx133_0; first | rwa [add_block] at this | exact this) : P := h_
theorem qzz25_ {P : Prop} (h_ : P := by have := World.block_lt_of_cell? _ _ hx126_0; first | rwa [add_block] at this | exact this) : P := h_
theorem qzz26_ {P : Prop} (h_ : P := by (with_reducible repeat (first | apply Kd.R_alloc | apply Kd.R_drewN | apply Kd.R_drew)); exact yw.out) : P := h_
theorem qzz27_ {P : Prop} (h_ : P := by repeat (first | (with_reducible first | exact HB.out | apply below_alloc | apply pw_below_drewN | apply below_drew1 | refine below_set ?_ GE101.out) | exact HB.out)) : P := h_
theorem qzz28_ {P : Prop} (h_ : P := by repeat (first | (with_reducible first | exact HB.out | apply below_alloc | apply pw_below_drewN | apply below_drew1) | exact HB.out)) : P := h_
theorem qzz29_ {P : Prop} (h_ : P := by first | rfl | (simp; done) | (simp [*]; done)) : P := h_
theorem qzz30_ {P : Prop} (h_ : P := by (with_reducible repeat (first | apply Kd.R_alloc | apply Kd.R_drewN | apply Kd.R_drew)); exact yz.out) : P := h_
theorem qzz31_ {P : Prop} (h_ : P := by first | rfl | (simp [errW_none, errW_some] <;> rfl) | (simp only [← hji202]; first | rfl | (simp [errW_none, errW_some] <;> rfl)) | (simp [*, errW_none, errW_some] <;> rfl)) : P := h_
theorem qzz32_ {P : Prop} (h_ : P := by first | (rw [add_block]; exact hn133_2) | (show (Addr.add _ _).block ≠ _; rw [add_block]; exact hn133_2) | exact hn133_2) : P := h_
theorem qzz33_ {P : Prop} (h_ : P := by first | (rw [add_block]; exact hn133_1) | (show (Addr.add _ _).block ≠ _; rw [add_block]; exact hn133_1) | exact hn133_1) : P := h_
theorem qzz34_ {P : Prop} (h_ : P := by first | (rw [add_block]; exact hn133_0) | (show (Addr.add _ _).block ≠ _; rw [add_block]; exact hn133_0) | exact hn133_0) : P := h_
theorem qzz35_ {P : Prop} (h_ : P := by first | (rw [add_block]; exact hn126_2) | (show (Addr.add _ _).block ≠ _; rw [add_block]; exact hn126_2) | exact hn126_2) : P := h_
theorem qzz36_ {P : Prop} (h_ : P := by first | (rw [add_block]; exact hn126_1) | (show (Addr.add _ _).block ≠ _; rw [add_block]; exact hn126_1) | exact hn126_1) : P := h_
theorem qzz37_ {P : Prop} (h_ : P := by first | (rw [add_block]; exact hn126_0) | (show (Addr.add _ _).block ≠ _; rw [add_block]; exact hn126_0) | exact hn126_0) : P := h_
theorem qzz38_ {P : Prop} (h_ : P := by repeat (first | exact (Kd.C_below ys.out HB.out) | (with_reducible refine Kd.C_alloc ?_ _) | (with_reducible refine Kd.C_drewN ?_ _) | (with_reducible refine Kd.C_drew ?_))) : P := h_
theorem qzz39_ {P : Prop} (h_ : P := by repeat (first | exact (Kd.R_reads' zr.out).2.2 | (with_reducible refine Kd.C_alloc ?_ _) | (with_reducible refine Kd.C_drewN ?_ _) | (with_reducible refine Kd.C_drew ?_))) : P := h_
theorem qzz40_ {P : Prop} (h_ : P := by exact (Kd.R_reads' zr.out).2.1) : P := h_
theorem qzz41_ {P : Prop} (h_ : P := by repeat (first | exact (Kd.R_reads' ya.out).2.2 | (with_reducible refine Kd.C_alloc ?_ _) | (with_reducible refine Kd.C_drewN ?_ _) | (with_reducible refine Kd.C_drew ?_))) : P := h_
theorem qzz42_ {P : Prop} (h_ : P := by exact (Kd.R_reads' ya.out).2.1) : P := h_
theorem qzz43_ {P : Prop} (h_ : P := by rintro w' ⟨s0, s1, s2, s3, s4⟩; go_simp; with_reducible rfl) : P := h_
theorem qzz44_ {P : Prop} (h_ : P := by simp only [Act.put, List.setIfInBounds_toArray, List.set_cons_zero, List.set_cons_succ, i64_w, i32_w]; rfl) : P := h_
theorem qzz45_ {P : Prop} (h_ : P := by intro w'; go_simp; with_reducible rfl) : P := h_
theorem qzz46_ {P : Prop} (h_ : P := by rintro w' ⟨s0, s1, s2, s3, s4, s5, s6, s7, s8⟩; go_simp; with_reducible rfl) : P := h_
theorem qzz47_ {P : Prop} (h_ : P := by go_simp; rfl) : P := h_
set_option maxHeartbeats 8000000 in
set_option maxRecDepth 100000 in
theorem grommetlaw16_PathOne.calls (k : Nat) (zw : Option Addr) (zp : Nat) (zb : List (S45)) (zc : Int) (zk : ByteArray) (zj : Int) (ye : Bool) (r : Bool) (w : World) (hr0_0 : Kd.C k45 w zw zb.length zb) (hc0_0 : zb.length ≤ zp) (hG : Glob.G w) (h : grommetlaw16_PathOne.f k zb zc zk zj ye = some r) :
  Calls Tryz.prog 8 #[.agg #[.slice zw zb.length zp, .int .i64 zc], .agg #[.string zk, .int .i64 zj, .bool ye]] w fun e w' => e = .returned (.bool r) ∧ Below w.heap.size w w' := by
 have hu24 := Tryz.underlying24
 have hu58 := Tryz.underlying58
 have hu45 := Tryz.underlying45
 have ys := qA_ hr0_0
 have yp := qA_ hc0_0
 clear hr0_0 hc0_0
 have HB := qA_ (Below.refl w.heap.size w)
 have H : ((grommetlaw16_large.f k zb zc).bind fun t103 => (if t103 = true then (grommetlaw16_PathOne.j0 k true zb zc zk zj ye) else ((graph_Right.f zb zc).bind fun t104 => (if t104 = true then (grommetlaw16_PathOne.j0 k (decide ((zk.size : Int) > 300)) zb zc zk zj ye) else (grommetlaw16_PathOne.j0 k true zb zc zk zj ye))))) = some r := h
 clear h
 have HC3 := qA_ H
 clear H
 go_enter Tryz.func8, Tryz.ntmps8
 go_upto_region 1 with (first | ((with_reducible refine gate_dst (N := 2) rfl ?_); (try (refine gate_guard (by rfl) ?_; dsimp only)); refine box_event ?hg (N := 2) ?hd (cs := #[.slice zw zb.length zp, .int .i64 zc]) (t := 24) ?hr ?_; (case hd => rfl); (case hg => rfl); (case hr => first | (go_simp; done) | (go_simp; rfl)); intro zg hg w4 hbox hb; have n0_ := qA_ (below_step (qzz28_) hb); have n1_ := qA_ (hbox); have n2_ := qA_ ((by rw [hg]; exact (below_size (qzz28_)) : w.heap.size ≤ zg)); have n3_ := qA_ ((by rw [hg]; exact (below_size (qzz28_)) : w.heap.size ≤ zg)); replace HB := n0_; have zd := n1_; have GW101 := n2_; have GE101 := n3_; clear n0_ n1_ n2_ n3_; clear hb hbox hg) | ((with_reducible refine gate_dst (N := 3) rfl ?_); (try (refine gate_guard (by rfl) ?_; dsimp only)); refine box_event ?hg (N := 3) ?hd (cs := #[.string zk, .int .i64 zj, .bool ye]) (t := 58) ?hr ?_; (case hd => rfl); (case hg => rfl); (case hr => first | (go_simp; done) | (go_simp; rfl)); intro ze hg w5 hbox hb; have n0_ := qA_ (blk_below (g := zg) (o := .cells #[.slice zw zb.length zp, .int .i64 zc] 24 (0, 0)) (qzz3_) hb); have n1_ := qA_ (below_step (qzz27_) hb); have n2_ := qA_ (hbox); have n3_ := qA_ ((by rw [hg]; exact (below_size (qzz27_)) : w.heap.size ≤ ze)); have n4_ := qA_ ((by rw [hg]; exact (below_size (qzz27_)) : w.heap.size ≤ ze)); have n5_ := qA_ ((by rw [hg]; exact Nat.ne_of_lt (blk_lt (g := zg) (o := .cells #[.slice zw zb.length zp, .int .i64 zc] 24 (0, 0)) (qzz3_)) : zg ≠ ze)); have n6_ := qA_ ((by rw [hg]; exact Nat.ne_of_gt (blk_lt (g := zg) (o := .cells #[.slice zw zb.length zp, .int .i64 zc] 24 (0, 0)) (qzz3_)) : ze ≠ zg)); replace zd := n0_; replace HB := n1_; have za := n2_; have GW102 := n3_; have GE102 := n4_; have yj := n5_; have yk := n6_; clear n0_ n1_ n2_ n3_ n4_ n5_ n6_; clear hb hbox hg))
 (try simp only [Act.put, List.setIfInBounds_toArray, List.set_cons_zero, List.set_cons_succ])
 go_cut [24] (fun v24 wc => ∃ (kq : Nat) (x24_2 : Bool), v24 = .bool x24_2 ∧ Aside0 (grommetlaw16_PathOne.j0 kq x24_2 zb zc zk zj ye = some r) ∧ Aside0 (kq ≤ k) ∧ Aside0 (wc.heap[zg]? = some (.cells #[(.slice zw zb.length zp), .int .i64 zc] 24 (0, 0))) ∧ Aside0 (wc.heap[ze]? = some (.cells #[.string zk, .int .i64 zj, .bool ye] 58 (0, 0))) ∧ Aside0 (Below w.heap.size w wc))
 case first =>
  have H := HC3.out
  clear HC3
  replace H := Option.bind_eq_some_iff.mp H
  obtain ⟨t103, A60, H⟩ := H
  replace H : (if t103 = true then (grommetlaw16_PathOne.j0 k true zb zc zk zj ye) else ((graph_Right.f zb zc).bind fun t104 => (if t104 = true then (grommetlaw16_PathOne.j0 k (decide ((zk.size : Int) > 300)) zb zc zk zj ye) else (grommetlaw16_PathOne.j0 k true zb zc zk zj ye)))) = some r := H
  have A6 := qA_ A60
  clear A60
  by_cases c7 : t103 = true
  ·
   subst c7
   have H1 : (grommetlaw16_PathOne.j0 k true zb zc zk zj ye) = some r := by rw [if_pos rfl] at H; exact H
   clear H
   have H := H1
   clear H1
   have H' := qA_ H
   clear H
   have hnb8 := yj.out
   have hnc8 := yk.out
   have hcz9_0 : w5.cell? ⟨zg, 0, none⟩ = some (.slice zw zb.length zp) := (blk_cell zd.out 0).trans rfl
   have hcz9_1 : w5.cell? ⟨zg, 1, none⟩ = some (.int .i64 zc) := (blk_cell zd.out 1).trans rfl
   have hfz9_0 := blk_frozen zd.out 0
   have hfz9_1 := blk_frozen zd.out 1
   go_wp2_with (first | ((with_reducible refine gate_callee (f := 22) rfl ?_); refine goesL_ (some 13) rfl rfl Tryz.func22 qk_ rfl #[.agg #[.slice zw zb.length zp, .int .i64 zc]] rfl (qzz10_) ?_; (with_reducible refine (grommetlaw16_large.calls k _ _ zb zc true _ ?side1 ?side2 (hG.below (qzz2_)) A6.out).mono ?_); (case side1 => exact qzz38_); (case side2 => exact yp.out); rintro e w10 ⟨rfl, hb⟩; refine ⟨_, rfl, ?_⟩; have n0_ := qA_ (blk_below (g := zg) (o := .cells #[.slice zw zb.length zp, .int .i64 zc] 24 (0, 0)) (qzz3_) hb); have n1_ := qA_ (blk_below (g := ze) (o := .cells #[.string zk, .int .i64 zj, .bool ye] 58 (0, 0)) (qzz1_) hb); have n2_ := qA_ (below_step (qzz0_) hb); replace zd := n0_; replace za := n1_; replace HB := n2_; clear n0_ n1_ n2_; (try clear hb); (try clear hk)))
   go_meet
   case rel => exact ⟨_, (true), (qzz29_), H', ⟨by first | omega | exact Nat.le_refl _⟩, ⟨qzz3_⟩, ⟨qzz1_⟩, ⟨qzz0_⟩⟩
  replace c7 := Bool.eq_false_iff.mpr c7
  subst c7
  have H1 : ((graph_Right.f zb zc).bind fun t104 => (if t104 = true then (grommetlaw16_PathOne.j0 k (decide ((zk.size : Int) > 300)) zb zc zk zj ye) else (grommetlaw16_PathOne.j0 k true zb zc zk zj ye))) = some r := by rw [if_neg (show ¬ (false = true) by decide)] at H; exact H
  clear H
  have H := H1
  clear H1
  replace H := Option.bind_eq_some_iff.mp H
  obtain ⟨t104, A110, H⟩ := H
  replace H : (if t104 = true then (grommetlaw16_PathOne.j0 k (decide ((zk.size : Int) > 300)) zb zc zk zj ye) else (grommetlaw16_PathOne.j0 k true zb zc zk zj ye)) = some r := H
  have A11 := qA_ A110
  clear A110
  by_cases c12 : t104 = true
  rotate_left
  ·
   replace c12 := Bool.eq_false_iff.mpr c12
   subst c12
   have H1 : (grommetlaw16_PathOne.j0 k true zb zc zk zj ye) = some r := by rw [if_neg (show ¬ (false = true) by decide)] at H; exact H
   clear H
   have H := H1
   clear H1
   have H' := qA_ H
   clear H
   have hnb19 := yj.out
   have hnc19 := yk.out
   have hcz20_0 : w5.cell? ⟨zg, 0, none⟩ = some (.slice zw zb.length zp) := (blk_cell zd.out 0).trans rfl
   have hcz20_1 : w5.cell? ⟨zg, 1, none⟩ = some (.int .i64 zc) := (blk_cell zd.out 1).trans rfl
   have hfz20_0 := blk_frozen zd.out 0
   have hfz20_1 := blk_frozen zd.out 1
   go_wp2_with (first | ((with_reducible refine gate_callee (f := 22) rfl ?_); refine goesL_ (some 13) rfl rfl Tryz.func22 qk_ rfl #[.agg #[.slice zw zb.length zp, .int .i64 zc]] rfl (qzz10_) ?_; (with_reducible refine (grommetlaw16_large.calls k _ _ zb zc false _ ?side1 ?side2 (hG.below (qzz2_)) A6.out).mono ?_); (case side1 => exact qzz38_); (case side2 => exact yp.out); rintro e w21 ⟨rfl, hb⟩; refine ⟨_, rfl, ?_⟩; have n0_ := qA_ (blk_below (g := zg) (o := .cells #[.slice zw zb.length zp, .int .i64 zc] 24 (0, 0)) (qzz3_) hb); have n1_ := qA_ (blk_below (g := ze) (o := .cells #[.string zk, .int .i64 zj, .bool ye] 58 (0, 0)) (qzz1_) hb); have n2_ := qA_ (below_step (qzz0_) hb); replace zd := n0_; replace za := n1_; replace HB := n2_; clear n0_ n1_ n2_; (try clear hb); (try clear hk); have hcz22_0 : w21.cell? ⟨zg, 0, none⟩ = some (.slice zw zb.length zp) := (blk_cell zd.out 0).trans rfl; have hcz22_1 : w21.cell? ⟨zg, 1, none⟩ = some (.int .i64 zc) := (blk_cell zd.out 1).trans rfl; have hfz22_0 := blk_frozen zd.out 0; have hfz22_1 := blk_frozen zd.out 1) | (go_at_call 29; (with_reducible refine (graph_Right.calls _ _ zb zc false _ ?side1 ?side2 (hG.below (qzz2_)) A11.out).mono ?_); (case side1 => exact qzz38_); (case side2 => exact yp.out); rintro e w23 ⟨rfl, hb⟩; have n0_ := qA_ (blk_below (g := zg) (o := .cells #[.slice zw zb.length zp, .int .i64 zc] 24 (0, 0)) (qzz3_) hb); have n1_ := qA_ (blk_below (g := ze) (o := .cells #[.string zk, .int .i64 zj, .bool ye] 58 (0, 0)) (qzz1_) hb); have n2_ := qA_ (below_step (qzz0_) hb); replace zd := n0_; replace za := n1_; replace HB := n2_; clear n0_ n1_ n2_; (try clear hb); (try clear hk)))
   go_meet
   case rel => exact ⟨_, (true), (qzz29_), H', ⟨by first | omega | exact Nat.le_refl _⟩, ⟨qzz3_⟩, ⟨qzz1_⟩, ⟨qzz0_⟩⟩
  subst c12
  have H1 : (grommetlaw16_PathOne.j0 k (decide ((zk.size : Int) > 300)) zb zc zk zj ye) = some r := by rw [if_pos rfl] at H; exact H
  clear H
  have H := H1
  clear H1
  have H' := qA_ H
  clear H
  have hnb13 := yj.out
  have hnc13 := yk.out
  have hcz14_0 : w5.cell? ⟨zg, 0, none⟩ = some (.slice zw zb.length zp) := (blk_cell zd.out 0).trans rfl
  have hcz14_1 : w5.cell? ⟨zg, 1, none⟩ = some (.int .i64 zc) := (blk_cell zd.out 1).trans rfl
  have hfz14_0 := blk_frozen zd.out 0
  have hfz14_1 := blk_frozen zd.out 1
  go_wp2_with (first | ((with_reducible refine gate_callee (f := 22) rfl ?_); refine goesL_ (some 13) rfl rfl Tryz.func22 qk_ rfl #[.agg #[.slice zw zb.length zp, .int .i64 zc]] rfl (qzz10_) ?_; (with_reducible refine (grommetlaw16_large.calls k _ _ zb zc false _ ?side1 ?side2 (hG.below (qzz2_)) A6.out).mono ?_); (case side1 => exact qzz38_); (case side2 => exact yp.out); rintro e w15 ⟨rfl, hb⟩; refine ⟨_, rfl, ?_⟩; have n0_ := qA_ (blk_below (g := zg) (o := .cells #[.slice zw zb.length zp, .int .i64 zc] 24 (0, 0)) (qzz3_) hb); have n1_ := qA_ (blk_below (g := ze) (o := .cells #[.string zk, .int .i64 zj, .bool ye] 58 (0, 0)) (qzz1_) hb); have n2_ := qA_ (below_step (qzz0_) hb); replace zd := n0_; replace za := n1_; replace HB := n2_; clear n0_ n1_ n2_; (try clear hb); (try clear hk); have hcz16_0 : w15.cell? ⟨zg, 0, none⟩ = some (.slice zw zb.length zp) := (blk_cell zd.out 0).trans rfl; have hcz16_1 : w15.cell? ⟨zg, 1, none⟩ = some (.int .i64 zc) := (blk_cell zd.out 1).trans rfl; have hfz16_0 := blk_frozen zd.out 0; have hfz16_1 := blk_frozen zd.out 1) | (go_at_call 29; (with_reducible refine (graph_Right.calls _ _ zb zc true _ ?side1 ?side2 (hG.below (qzz2_)) A11.out).mono ?_); (case side1 => exact qzz38_); (case side2 => exact yp.out); rintro e w17 ⟨rfl, hb⟩; have n0_ := qA_ (blk_below (g := zg) (o := .cells #[.slice zw zb.length zp, .int .i64 zc] 24 (0, 0)) (qzz3_) hb); have n1_ := qA_ (blk_below (g := ze) (o := .cells #[.string zk, .int .i64 zj, .bool ye] 58 (0, 0)) (qzz1_) hb); have n2_ := qA_ (below_step (qzz0_) hb); replace zd := n0_; replace za := n1_; replace HB := n2_; clear n0_ n1_ n2_; (try clear hb); (try clear hk); have hcz18_0 : w17.cell? ⟨ze, 0, none⟩ = some (.string zk) := (blk_cell za.out 0).trans rfl; have hcz18_1 : w17.cell? ⟨ze, 1, none⟩ = some (.int .i64 zj) := (blk_cell za.out 1).trans rfl; have hcz18_2 : w17.cell? ⟨ze, 2, none⟩ = some (.bool ye) := (blk_cell za.out 2).trans rfl; have hfz18_0 := blk_frozen za.out 0; have hfz18_1 := blk_frozen za.out 1; have hfz18_2 := blk_frozen za.out 2))
  go_meet
  case rel => exact ⟨_, (decide ((zk.size : Int) > 300)), (qzz29_), H', ⟨by first | omega | exact Nat.le_refl _⟩, ⟨qzz3_⟩, ⟨qzz1_⟩, ⟨qzz0_⟩⟩
 case rest =>
  clear HC3
  try clear c1
  try clear c2
  try clear p2
  try clear c7
  try clear c8
  try clear c12
  try clear c13
  try clear c19
  try clear c22
  try clear hcz14_0
  try clear hcz14_1
  try clear hcz16_0
  try clear hcz16_1
  try clear hcz18_0
  try clear hcz18_1
  try clear hcz18_2
  try clear hcz20_0
  try clear hcz20_1
  try clear hcz22_0
  try clear hcz22_1
  try clear hcz9_0
  try clear hcz9_1
  try clear hfz14_0
  try clear hfz14_1
  try clear hfz16_0
  try clear hfz16_1
  try clear hfz18_0
  try clear hfz18_1
  try clear hfz18_2
  try clear hfz20_0
  try clear hfz20_1
  try clear hfz22_0
  try clear hfz22_1
  try clear hfz9_0
  try clear hfz9_1
  obtain ⟨kq, x24_2, rfl, HA, HJ2, zd, za, HB⟩ := hcut
  cases kq with
  | zero => exact absurd HA.out (by simp [grommetlaw16_PathOne.j0])
  | succ kj2 =>
   have H := HA.out
   clear HA
   simp only [grommetlaw16_PathOne.j0] at H
   by_cases c24 : x24_2 = true
   ·
    subst c24
    have H1 : ((grommetlaw16_alive.f).bind fun t105 => (some t105)) = some r := by rw [if_pos rfl] at H; exact H
    clear H
    have H := H1
    clear H1
    replace H := Option.bind_eq_some_iff.mp H
    obtain ⟨t105, A250, H⟩ := H
    replace H : (some t105) = some r := H
    have A25 := qA_ A250
    clear A250
    obtain rfl := Option.some.inj H
    go_wp2_with (first | ((with_reducible refine gate_callee (f := 24) rfl ?_); refine goesL_ (some 25) rfl rfl Tryz.func24 qk_ rfl #[] rfl (qzz10_) ?_; (with_reducible refine (grommetlaw16_alive.calls  t105 _ (hG.below (qzz2_)) A25.out).mono ?_); rintro e w26 ⟨rfl, hb⟩; refine ⟨_, rfl, ?_⟩; have n0_ := qA_ (blk_below (g := zg) (o := .cells #[.slice zw zb.length zp, .int .i64 zc] 24 (0, 0)) (qzz3_) hb); have n1_ := qA_ (blk_below (g := ze) (o := .cells #[.string zk, .int .i64 zj, .bool ye] 58 (0, 0)) (qzz1_) hb); have n2_ := qA_ (below_step (qzz0_) hb); replace zd := n0_; replace za := n1_; replace HB := n2_; clear n0_ n1_ n2_; (try clear hb); (try clear hk)))
    go_ret
    exact ⟨qzz18_, qzz0_⟩
   replace c24 := Bool.eq_false_iff.mpr c24
   subst c24
   have H1 : ((grommetlaw16_theirs.f kj2 (([(⟨zk, zj, ye⟩ : S58)] : List (S58)))).bind fun t109 => ((path_Get.f kj2 zb zc t109).bind fun bt112 => (if bt112.2 = 1 then ((grommetlaw16_theirs.f kj2 (([(⟨zk, zj, ye⟩ : S58)] : List (S58)))).bind fun t117 => ((path_Format.f t117).bind fun bt120 => (if bt120.2 = 0 then (some false) else ((grommetlaw16_alive.f).bind fun t122 => (some t122))))) else (if 0 ≤ zc then (if zc < (zb.length : Int) then (if ye = true then (if ((rd_T45 zb zc).f0) = 5 then (if zj < (((rd_T45 zb zc).f2).length : Int) then (if bt112.2 = 0 then (if 0 ≤ zj then (if bt112.1 = (rd ((rd_T45 zb zc).f2) zj) then ((grommetlaw16_alive.f).bind fun t127 => (some t127)) else (some false)) else (none)) else (some false)) else (if bt112.2 = 6 then ((grommetlaw16_alive.f).bind fun t128 => (some t128)) else (some false))) else (if bt112.2 = 17 then ((grommetlaw16_alive.f).bind fun t125 => (some t125)) else (some false))) else (if ((rd_T45 zb zc).f0) = 6 then (grommetlaw16_PathOne.l0 kj2 bt112.1 bt112.2 0 zb zc zk zj ye ((rd_T45 zb zc).f0) ((rd_T45 zb zc).f1) ((rd_T45 zb zc).f2)) else (if bt112.2 = 17 then ((grommetlaw16_alive.f).bind fun t129 => (some t129)) else (some false)))) else (none)) else (none))))) = some r := by rw [if_neg (show ¬ (false = true) by decide)] at H; exact H
   clear H
   have H := H1
   clear H1
   obtain ⟨y106, hy106⟩ : ∃ y_ : List (S58), y_ = (([(⟨zk, zj, ye⟩ : S58)] : List (S58))) := ⟨_, rfl⟩
   replace H : ((grommetlaw16_theirs.f kj2 y106).bind fun t109 => ((path_Get.f kj2 zb zc t109).bind fun bt112 => (if bt112.2 = 1 then ((grommetlaw16_theirs.f kj2 (([(⟨zk, zj, ye⟩ : S58)] : List (S58)))).bind fun t117 => ((path_Format.f t117).bind fun bt120 => (if bt120.2 = 0 then (some false) else ((grommetlaw16_alive.f).bind fun t122 => (some t122))))) else (if 0 ≤ zc then (if zc < (zb.length : Int) then (if ye = true then (if ((rd_T45 zb zc).f0) = 5 then (if zj < (((rd_T45 zb zc).f2).length : Int) then (if bt112.2 = 0 then (if 0 ≤ zj then (if bt112.1 = (rd ((rd_T45 zb zc).f2) zj) then ((grommetlaw16_alive.f).bind fun t127 => (some t127)) else (some false)) else (none)) else (some false)) else (if bt112.2 = 6 then ((grommetlaw16_alive.f).bind fun t128 => (some t128)) else (some false))) else (if bt112.2 = 17 then ((grommetlaw16_alive.f).bind fun t125 => (some t125)) else (some false))) else (if ((rd_T45 zb zc).f0) = 6 then (grommetlaw16_PathOne.l0 kj2 bt112.1 bt112.2 0 zb zc zk zj ye ((rd_T45 zb zc).f0) ((rd_T45 zb zc).f1) ((rd_T45 zb zc).f2)) else (if bt112.2 = 17 then ((grommetlaw16_alive.f).bind fun t129 => (some t129)) else (some false)))) else (none)) else (none))))) = some r := by first | (rw [hy106]; with_reducible exact H) | (have H2_ := (Option.bind_some _ _).symm.trans H; rw [hy106]; with_reducible exact H2_) | (have H2_ := (Option.bind_some _ _).symm.trans H; with_reducible exact H2_) | with_reducible exact H | (rw [hy106]; exact H) | exact H
   have Ny106 := qA_ hy106
   clear hy106
   replace H := Option.bind_eq_some_iff.mp H
   obtain ⟨t109, A270, H⟩ := H
   replace H : ((path_Get.f kj2 zb zc t109).bind fun bt112 => (if bt112.2 = 1 then ((grommetlaw16_theirs.f kj2 (([(⟨zk, zj, ye⟩ : S58)] : List (S58)))).bind fun t117 => ((path_Format.f t117).bind fun bt120 => (if bt120.2 = 0 then (some false) else ((grommetlaw16_alive.f).bind fun t122 => (some t122))))) else (if 0 ≤ zc then (if zc < (zb.length : Int) then (if ye = true then (if ((rd_T45 zb zc).f0) = 5 then (if zj < (((rd_T45 zb zc).f2).length : Int) then (if bt112.2 = 0 then (if 0 ≤ zj then (if bt112.1 = (rd ((rd_T45 zb zc).f2) zj) then ((grommetlaw16_alive.f).bind fun t127 => (some t127)) else (some false)) else (none)) else (some false)) else (if bt112.2 = 6 then ((grommetlaw16_alive.f).bind fun t128 => (some t128)) else (some false))) else (if bt112.2 = 17 then ((grommetlaw16_alive.f).bind fun t125 => (some t125)) else (some false))) else (if ((rd_T45 zb zc).f0) = 6 then (grommetlaw16_PathOne.l0 kj2 bt112.1 bt112.2 0 zb zc zk zj ye ((rd_T45 zb zc).f0) ((rd_T45 zb zc).f1) ((rd_T45 zb zc).f2)) else (if bt112.2 = 17 then ((grommetlaw16_alive.f).bind fun t129 => (some t129)) else (some false)))) else (none)) else (none)))) = some r := H
   have A27 := qA_ A270
   clear A270
   replace H := Option.bind_eq_some_iff.mp H
   obtain ⟨⟨t112, t113⟩, A280, H⟩ := H
   replace H : (if t113 = 1 then ((grommetlaw16_theirs.f kj2 (([(⟨zk, zj, ye⟩ : S58)] : List (S58)))).bind fun t117 => ((path_Format.f t117).bind fun bt120 => (if bt120.2 = 0 then (some false) else ((grommetlaw16_alive.f).bind fun t122 => (some t122))))) else (if 0 ≤ zc then (if zc < (zb.length : Int) then (if ye = true then (if ((rd_T45 zb zc).f0) = 5 then (if zj < (((rd_T45 zb zc).f2).length : Int) then (if t113 = 0 then (if 0 ≤ zj then (if t112 = (rd ((rd_T45 zb zc).f2) zj) then ((grommetlaw16_alive.f).bind fun t127 => (some t127)) else (some false)) else (none)) else (some false)) else (if t113 = 6 then ((grommetlaw16_alive.f).bind fun t128 => (some t128)) else (some false))) else (if t113 = 17 then ((grommetlaw16_alive.f).bind fun t125 => (some t125)) else (some false))) else (if ((rd_T45 zb zc).f0) = 6 then (grommetlaw16_PathOne.l0 kj2 t112 t113 0 zb zc zk zj ye ((rd_T45 zb zc).f0) ((rd_T45 zb zc).f1) ((rd_T45 zb zc).f2)) else (if t113 = 17 then ((grommetlaw16_alive.f).bind fun t129 => (some t129)) else (some false)))) else (none)) else (none))) = some r := H
   have A28 := qA_ A280
   clear A280
   by_cases c29 : t113 = 1
   ·
    rw [if_pos c29] at H
    have c29b0 : (t113 == 1) = true := beq_iff_eq.mpr c29
    have c29b1 : (t113 != 1) = false := bne_eq_false_iff_eq.mpr c29
    clear c29
    obtain ⟨y114, hy114⟩ : ∃ y_ : List (S58), y_ = (([(⟨zk, zj, ye⟩ : S58)] : List (S58))) := ⟨_, rfl⟩
    replace H : ((grommetlaw16_theirs.f kj2 y114).bind fun t117 => ((path_Format.f t117).bind fun bt120 => (if bt120.2 = 0 then (some false) else ((grommetlaw16_alive.f).bind fun t122 => (some t122))))) = some r := by first | (rw [hy114]; with_reducible exact H) | (have H2_ := (Option.bind_some _ _).symm.trans H; rw [hy114]; with_reducible exact H2_) | (have H2_ := (Option.bind_some _ _).symm.trans H; with_reducible exact H2_) | with_reducible exact H | (rw [hy114]; exact H) | exact H
    have Ny114 := qA_ hy114
    clear hy114
    replace H := Option.bind_eq_some_iff.mp H
    obtain ⟨t117, A300, H⟩ := H
    replace H : ((path_Format.f t117).bind fun bt120 => (if bt120.2 = 0 then (some false) else ((grommetlaw16_alive.f).bind fun t122 => (some t122)))) = some r := H
    have A30 := qA_ A300
    clear A300
    replace H := Option.bind_eq_some_iff.mp H
    obtain ⟨⟨t120, t121⟩, A310, H⟩ := H
    replace H : (if t121 = 0 then (some false) else ((grommetlaw16_alive.f).bind fun t122 => (some t122))) = some r := H
    have A31 := qA_ A310
    clear A310
    by_cases c32 : t121 = 0
    ·
     rw [if_pos c32] at H
     have c32b0 : (t121 == 0) = true := beq_iff_eq.mpr c32
     have c32b1 : (t121 != 0) = false := bne_eq_false_iff_eq.mpr c32
     clear c32
     obtain rfl := Option.some.inj H
     try go_wp2
     have n0_ := qA_ (blk_drew zd.out)
     have n1_ := qA_ (blk_drew za.out)
     have n2_ := qA_ (below_drew1 HB.out)
     replace zd := n0_
     replace za := n1_
     replace HB := n2_
     clear n0_ n1_ n2_
     refine start_ (n := 10) (S := fun w' => w'.cell? ⟨zg, 0, none⟩ = some (.slice zw zb.length zp) ∧ w'.cell? ⟨zg, 1, none⟩ = some (.int .i64 zc) ∧ w'.cell? ⟨ze, 0, none⟩ = some (.string zk) ∧ w'.cell? ⟨ze, 1, none⟩ = some (.int .i64 zj) ∧ w'.cell? ⟨ze, 2, none⟩ = some (.bool ye)) (ds := []) #[false, false, false, false, false, false, false, false, false, false] qk_ rfl rfl ⟨(blk_cell zd.out 0).trans rfl, (blk_cell zd.out 1).trans rfl, (blk_cell za.out 0).trans rfl, (blk_cell za.out 1).trans rfl, (blk_cell za.out 2).trans rfl⟩ (fun zm => ?_); refine with_tabW grommetlaw16_PathOne.tab3 grommetlaw16_PathOne.bits3 (fun HT_ HW_ => ?_)
     generalize wc.drew = w33 at zd za HB zm ⊢
     refine take_ (i := 0) (N := some 27) (v := ?_) (a' := ?_) #[true, false, false, false, false, false, false, false, false, false] rfl rfl (take_ofW HT_.out HW_.out qk_) (fun _ _ _ h => h) (Or.inl ⟨by rfl, ?_⟩) zm ?_ ?_
     rotate_left
     exact qzz43_
     rotate_left
     exact qzz44_
     refine take_ (i := 1) (N := some 28) (v := ?_) (a' := ?_) #[true, true, false, false, false, false, false, false, false, false] rfl rfl (take_ofW HT_.out HW_.out qk_) (fun _ _ _ h => h) (Or.inl ⟨by rfl, ?_⟩) zm ?_ ?_
     rotate_left
     exact qzz43_
     rotate_left
     exact qzz44_
     refine one_ (i := 2) (N := some 29) #[true, true, true, false, false, false, false, false, false, false] rfl rfl (one_of HT_.out qk_) (by decide) (fun K hK => ?_)
     refine Kd.R_lit_step k58 _ 58 ?hg (N := 29) ?hd (xs := ([(⟨zk, zj, ye⟩ : S58)] : List (S58))) (inner := [.string zk, .int .i64 zj, .bool ye]) (ok := fun _ => True) (okp := fun _ => True) ?hr ?hp (fun _ hk => hk) trivial (Below.refl _ _) (Nat.le_refl _) (by simp) ?_; (case hd => rfl); (case hg => rfl); (case hr => first | (go_simp; done) | (go_simp; rfl)); (case hp => exact (Reps.c3 (show Kd.M k58 _ _ _ (⟨zk, zj, ye⟩ : S58) [.string zk, .int .i64 zj, .bool ye] from (k58_mkM _ _ _ (⟨zk, zj, ye⟩ : S58) )) (Reps.none _ _)))
     intro v107 w34 ho35 hb hg_ hnew_
     clear hg_ hnew_
     (first | rw [← Ny106.out] at ho35 | (simp only [Int.reduceToNat] at ho35; rw [← Ny106.out] at ho35))
     have n0_ := qA_ (Kd.R_lower (Kd.R_newB ho35 (g := ze) (o := .cells #[.string zk, .int .i64 zj, .bool ye] 58 (0, 0)) (qzz1_)) (below_size (qzz0_)))
     have n1_ := qA_ (blk_below (g := zg) (o := .cells #[.slice zw zb.length zp, .int .i64 zc] 24 (0, 0)) (qzz3_) hb)
     have n2_ := qA_ (blk_below (g := ze) (o := .cells #[.string zk, .int .i64 zj, .bool ye] 58 (0, 0)) (qzz1_) hb)
     have n3_ := qA_ (below_step (qzz0_) hb)
     have zr := n0_
     replace zd := n1_
     replace za := n2_
     replace HB := n3_
     clear n0_ n1_ n2_ n3_
     clear hb ho35
     obtain ⟨Ao36, co36, eo36⟩ := Kd.R_slice zr.out
     (first | subst eo36 | (injection eo36 with f1_ f2_ f3_; have f4_ := f1_.symm; have f5_ := f3_.symm; clear f1_ f2_ f3_; subst f4_; subst f5_))
     refine hK.out _ _ ⟨(blk_cell zd.out 0).trans rfl, (blk_cell zd.out 1).trans rfl, (blk_cell za.out 0).trans rfl, (blk_cell za.out 1).trans rfl, (blk_cell za.out 2).trans rfl⟩ (fun zm => ?_)
     clear hK K
     refine norm_ (a' := ?_) ?_ ?_
     rotate_left
     ·
      show Act.put _ (some 29) _ = _
      simp only [Act.put, List.setIfInBounds_toArray, List.set_cons_zero, List.set_cons_succ, i64_w, i32_w]
      rfl
     refine one_ (i := 3) (N := some 30) #[true, true, true, true, false, false, false, false, false, false] rfl rfl (one_of HT_.out qk_) (by decide) (fun K hK => ?_)
     refine goes_ Tryz.func26 qk_ rfl #[.slice Ao36 y106.length co36] (by rfl) rfl rfl (qzz10_) ?_
     with_reducible refine (grommetlaw16_theirs.calls kj2 _ _ y106 t109 _ ?side1 ?side2 (hG.below (qzz2_)) A27.out).mono ?_
     (case side1 => exact qzz39_)
     (case side2 => exact qzz40_)
     rintro e w37 ⟨v110, rfl, ho0, hb⟩
     refine ⟨_, rfl, ?_⟩
     have n0_ := qA_ (Kd.R_below (qzz9_) hb)
     have n1_ := qA_ (Kd.R_lower ho0 (below_size (qzz0_)))
     have n2_ := qA_ (blk_below (g := zg) (o := .cells #[.slice zw zb.length zp, .int .i64 zc] 24 (0, 0)) (qzz3_) hb)
     have n3_ := qA_ (blk_below (g := ze) (o := .cells #[.string zk, .int .i64 zj, .bool ye] 58 (0, 0)) (qzz1_) hb)
     have n4_ := qA_ (below_step (qzz0_) hb)
     replace zr := n0_
     have ya := n1_
     replace zd := n2_
     replace za := n3_
     replace HB := n4_
     clear n0_ n1_ n2_ n3_ n4_
     (try clear hb)
     (try clear hb2)
     (try clear hk)
     (try clear hi)
     (try clear ho0)
     obtain ⟨Ao38, co38, eo38⟩ := Kd.R_slice ya.out
     (first | subst eo38 | (injection eo38 with f1_ f2_ f3_; have f4_ := f1_.symm; have f5_ := f3_.symm; clear f1_ f2_ f3_; subst f4_; subst f5_))
     refine hK.out _ _ ⟨(blk_cell zd.out 0).trans rfl, (blk_cell zd.out 1).trans rfl, (blk_cell za.out 0).trans rfl, (blk_cell za.out 1).trans rfl, (blk_cell za.out 2).trans rfl⟩ (fun zm => ?_)
     clear hK K
     refine norm_ (a' := ?_) ?_ ?_
     rotate_left
     ·
      show Act.put _ (some 30) _ = _
      simp only [Act.put, List.setIfInBounds_toArray, List.set_cons_zero, List.set_cons_succ, i64_w, i32_w]
      rfl
     refine one_ (i := 4) (N := some 31) #[true, true, true, true, true, false, false, false, false, false] rfl rfl (one_of HT_.out qk_) (by decide) (fun K hK => ?_)
     refine goes_ Tryz.func25 qk_ rfl #[.agg #[.slice zw zb.length zp, .int .i64 zc], .slice Ao38 t109.length co38] (by rfl) rfl rfl (qzz10_) ?_
     with_reducible refine (path_Get.calls kj2 _ _ zb zc _ _ t109 t112 t113 _ ?side1 ?side2 ?side3 ?side4 (hG.below (qzz2_)) A28.out).mono ?_
     (case side1 => exact qzz38_)
     (case side2 => exact yp.out)
     (case side3 => exact qzz41_)
     (case side4 => exact qzz42_)
     rintro e w39 ⟨rfl, hb⟩
     refine ⟨_, rfl, ?_⟩
     have n0_ := qA_ (Kd.R_below (qzz9_) hb)
     have n1_ := qA_ (Kd.R_below (qzz12_) hb)
     have n2_ := qA_ (blk_below (g := zg) (o := .cells #[.slice zw zb.length zp, .int .i64 zc] 24 (0, 0)) (qzz3_) hb)
     have n3_ := qA_ (blk_below (g := ze) (o := .cells #[.string zk, .int .i64 zj, .bool ye] 58 (0, 0)) (qzz1_) hb)
     have n4_ := qA_ (below_step (qzz0_) hb)
     replace zr := n0_
     replace ya := n1_
     replace zd := n2_
     replace za := n3_
     replace HB := n4_
     clear n0_ n1_ n2_ n3_ n4_
     (try clear hb)
     (try clear hb2)
     (try clear hk)
     (try clear hi)
     refine hK.out _ _ ⟨(blk_cell zd.out 0).trans rfl, (blk_cell zd.out 1).trans rfl, (blk_cell za.out 0).trans rfl, (blk_cell za.out 1).trans rfl, (blk_cell za.out 2).trans rfl⟩ (fun zm => ?_)
     clear hK K
     refine norm_ (a' := ?_) ?_ ?_
     rotate_left
     ·
      show Act.put _ (some 31) _ = _
      simp only [Act.put, List.setIfInBounds_toArray, List.set_cons_zero, List.set_cons_succ, i64_w, i32_w]
      rfl
     refine pure_ (i := 5) (N := some 26) (v := ?_) (a' := ?_) #[true, true, true, true, true, true, false, false, false, false] rfl rfl (any_of HT_.out qk_) (fun _ _ _ h => h) (Or.inl ⟨by rfl, ?_⟩) ?_ ?_
     rotate_left
     exact qzz45_
     rotate_left
     exact qzz44_
     refine pure_ (i := 6) (N := some 32) (v := ?_) (a' := ?_) #[true, true, true, true, true, true, true, false, false, false] rfl rfl (any_of HT_.out qk_) (fun _ _ _ h => h) (Or.inl ⟨by rfl, ?_⟩) ?_ ?_
     rotate_left
     exact qzz45_
     rotate_left
     exact qzz44_
     refine pure_ (i := 7) (N := some 33) (v := ?_) (a' := ?_) #[true, true, true, true, true, true, true, true, false, false] rfl rfl (any_of HT_.out qk_) (fun _ _ _ h => h) (Or.inl ⟨by rfl, ?_⟩) ?_ ?_
     rotate_left
     exact qzz45_
     rotate_left
     exact qzz44_
     refine pure_ (i := 8) (N := some 5) (v := ?_) (a' := ?_) #[true, true, true, true, true, true, true, true, true, false] rfl rfl (any_of HT_.out qk_) (fun _ _ _ h => h) (Or.inl ⟨by rfl, ?_⟩) ?_ ?_
     rotate_left
     exact qzz45_
     rotate_left
     exact qzz44_
     refine pure_ (i := 9) (N := some 6) (v := ?_) (a' := ?_) #[true, true, true, true, true, true, true, true, true, true] rfl rfl (any_of HT_.out qk_) (fun _ _ _ h => h) (Or.inl ⟨by rfl, ?_⟩) ?_ ?_
     rotate_left
     exact qzz45_
     rotate_left
     exact qzz44_
     refine done_ (done_of HT_.out qk_) ?_
     have hnb40 := yk.out
     have hnc40 := yj.out
     have hcz41_0 : w39.cell? ⟨ze, 0, none⟩ = some (.string zk) := (blk_cell za.out 0).trans rfl
     have hcz41_1 : w39.cell? ⟨ze, 1, none⟩ = some (.int .i64 zj) := (blk_cell za.out 1).trans rfl
     have hcz41_2 : w39.cell? ⟨ze, 2, none⟩ = some (.bool ye) := (blk_cell za.out 2).trans rfl
     have hfz41_0 := blk_frozen za.out 0
     have hfz41_1 := blk_frozen za.out 1
     have hfz41_2 := blk_frozen za.out 2
     try go_wp2_with (first | ((with_reducible refine gate_dst (N := 38) rfl ?_); (try (refine gate_guard (by rfl) ?_; dsimp only)); refine Kd.R_lit k58 _ 58 ?hg (N := 38) ?hd (xs := ([(⟨zk, zj, ye⟩ : S58)] : List (S58))) (inner := [.string zk, .int .i64 zj, .bool ye]) (ok := fun _ => True) (okp := fun _ => True) ?hr ?hp (fun _ hk => hk) trivial (Below.refl _ _) (Nat.le_refl _) (by simp) ?_; (case hd => rfl); (case hg => rfl); (case hr => first | (go_simp; done) | (go_simp; rfl)); (case hp => exact (Reps.c3 (show Kd.M k58 _ _ _ (⟨zk, zj, ye⟩ : S58) [.string zk, .int .i64 zj, .bool ye] from (k58_mkM _ _ _ (⟨zk, zj, ye⟩ : S58) )) (Reps.none _ _))); intro v115 w42 ho43 hb hg_ hnew_; clear hg_ hnew_; (first | rw [← Ny114.out] at ho43 | (simp only [Int.reduceToNat] at ho43; rw [← Ny114.out] at ho43)); have n0_ := qA_ (Kd.R_elder' (qzz9_) (Kd.R_base ho43) hb); have n1_ := qA_ (Kd.R_below (qzz12_) hb); have n2_ := qA_ (Kd.R_lower (Kd.R_newB (Kd.R_new' ho43 (Kd.R_lt (qzz9_))) (g := ze) (o := .cells #[.string zk, .int .i64 zj, .bool ye] 58 (0, 0)) (qzz1_)) (below_size (qzz0_))); have n3_ := qA_ (blk_below (g := zg) (o := .cells #[.slice zw zb.length zp, .int .i64 zc] 24 (0, 0)) (qzz3_) hb); have n4_ := qA_ (blk_below (g := ze) (o := .cells #[.string zk, .int .i64 zj, .bool ye] 58 (0, 0)) (qzz1_) hb); have n5_ := qA_ (below_step (qzz0_) hb); replace zr := n0_; replace ya := n1_; have yw := n2_; replace zd := n3_; replace za := n4_; replace HB := n5_; clear n0_ n1_ n2_ n3_ n4_ n5_; clear hb ho43; obtain ⟨Ao44, co44, eo44⟩ := Kd.R_slice yw.out; subst eo44) | ((with_reducible refine gate_callee (f := 26) rfl ?_); refine goesL_ (some 39) rfl rfl Tryz.func26 qk_ rfl #[.slice Ao44 y114.length co44] rfl (qzz10_) ?_; (with_reducible refine (grommetlaw16_theirs.calls kj2 _ _ y114 t117 _ ?side1 ?side2 (hG.below (qzz2_)) A30.out).mono ?_); (case side1 => repeat (first | exact (Kd.R_reads' yw.out).2.2 | (with_reducible refine Kd.C_alloc ?_ _) | (with_reducible refine Kd.C_drewN ?_ _) | (with_reducible refine Kd.C_drew ?_))); (case side2 => exact (Kd.R_reads' yw.out).2.1); rintro e w45 ⟨v118, rfl, ho0, hb⟩; refine ⟨_, rfl, ?_⟩; have n0_ := qA_ (Kd.R_below (qzz9_) hb); have n1_ := qA_ (Kd.R_elder' (qzz12_) (Kd.R_base ho0) hb); have n2_ := qA_ (Kd.R_below (qzz26_) hb); have n3_ := qA_ (Kd.R_lower (Kd.R_new' ho0 (Kd.R_lt (qzz12_))) (below_size (qzz0_))); have n4_ := qA_ (blk_below (g := zg) (o := .cells #[.slice zw zb.length zp, .int .i64 zc] 24 (0, 0)) (qzz3_) hb); have n5_ := qA_ (blk_below (g := ze) (o := .cells #[.string zk, .int .i64 zj, .bool ye] 58 (0, 0)) (qzz1_) hb); have n6_ := qA_ (below_step (qzz0_) hb); replace zr := n0_; replace ya := n1_; replace yw := n2_; have yz := n3_; replace zd := n4_; replace za := n5_; replace HB := n6_; clear n0_ n1_ n2_ n3_ n4_ n5_ n6_; (try clear hb); (try clear hk); (try clear ho0); obtain ⟨Ao46, co46, eo46⟩ := Kd.R_slice yz.out; subst eo46) | ((with_reducible refine gate_callee (f := 28) rfl ?_); refine goesL_ (some 40) rfl rfl Tryz.func28 qk_ rfl #[.slice Ao46 t117.length co46] rfl (qzz10_) ?_; (with_reducible refine (path_Format.calls _ _ t117 t120 t121 _ ?side1 ?side2 (hG.below (qzz2_)) A31.out).mono ?_); (case side1 => repeat (first | exact (Kd.R_reads' yz.out).2.2 | (with_reducible refine Kd.C_alloc ?_ _) | (with_reducible refine Kd.C_drewN ?_ _) | (with_reducible refine Kd.C_drew ?_))); (case side2 => exact (Kd.R_reads' yz.out).2.1); rintro e w47 ⟨rfl, hb⟩; refine ⟨_, rfl, ?_⟩; have n0_ := qA_ (Kd.R_below (qzz9_) hb); have n1_ := qA_ (Kd.R_below (qzz12_) hb); have n2_ := qA_ (Kd.R_below (qzz26_) hb); have n3_ := qA_ (Kd.R_below (qzz30_) hb); have n4_ := qA_ (blk_below (g := zg) (o := .cells #[.slice zw zb.length zp, .int .i64 zc] 24 (0, 0)) (qzz3_) hb); have n5_ := qA_ (blk_below (g := ze) (o := .cells #[.string zk, .int .i64 zj, .bool ye] 58 (0, 0)) (qzz1_) hb); have n6_ := qA_ (below_step (qzz0_) hb); replace zr := n0_; replace ya := n1_; replace yw := n2_; replace yz := n3_; replace zd := n4_; replace za := n5_; replace HB := n6_; clear n0_ n1_ n2_ n3_ n4_ n5_ n6_; (try clear hb); (try clear hk)))
     go_ret
     exact ⟨qzz18_, qzz0_⟩
    rw [if_neg c32] at H
    have c32b0 : (t121 == 0) = false := beq_eq_false_iff_ne.mpr c32
    have c32b1 : (t121 != 0) = true := bne_iff_ne.mpr c32
    replace H := Option.bind_eq_some_iff.mp H
    obtain ⟨t122, A480, H⟩ := H
    replace H : (some t122) = some r := H
    have A48 := qA_ A480
    clear A480
    obtain rfl := Option.some.inj H
    try go_wp2
    have n0_ := qA_ (blk_drew zd.out)
    have n1_ := qA_ (blk_drew za.out)
    have n2_ := qA_ (below_drew1 HB.out)
    replace zd := n0_
    replace za := n1_
    replace HB := n2_
    clear n0_ n1_ n2_
    refine start_ (n := 10) (S := fun w' => w'.cell? ⟨zg, 0, none⟩ = some (.slice zw zb.length zp) ∧ w'.cell? ⟨zg, 1, none⟩ = some (.int .i64 zc) ∧ w'.cell? ⟨ze, 0, none⟩ = some (.string zk) ∧ w'.cell? ⟨ze, 1, none⟩ = some (.int .i64 zj) ∧ w'.cell? ⟨ze, 2, none⟩ = some (.bool ye)) (ds := []) #[false, false, false, false, false, false, false, false, false, false] qk_ rfl rfl ⟨(blk_cell zd.out 0).trans rfl, (blk_cell zd.out 1).trans rfl, (blk_cell za.out 0).trans rfl, (blk_cell za.out 1).trans rfl, (blk_cell za.out 2).trans rfl⟩ (fun zm => ?_); refine with_tabW grommetlaw16_PathOne.tab3 grommetlaw16_PathOne.bits3 (fun HT_ HW_ => ?_)
    generalize wc.drew = w49 at zd za HB zm ⊢
    refine take_ (i := 0) (N := some 27) (v := ?_) (a' := ?_) #[true, false, false, false, false, false, false, false, false, false] rfl rfl (take_ofW HT_.out HW_.out qk_) (fun _ _ _ h => h) (Or.inl ⟨by rfl, ?_⟩) zm ?_ ?_
    rotate_left
    exact qzz43_
    rotate_left
    exact qzz44_
    refine take_ (i := 1) (N := some 28) (v := ?_) (a' := ?_) #[true, true, false, false, false, false, false, false, false, false] rfl rfl (take_ofW HT_.out HW_.out qk_) (fun _ _ _ h => h) (Or.inl ⟨by rfl, ?_⟩) zm ?_ ?_
    rotate_left
    exact qzz43_
    rotate_left
    exact qzz44_
    refine one_ (i := 2) (N := some 29) #[true, true, true, false, false, false, false, false, false, false] rfl rfl (one_of HT_.out qk_) (by decide) (fun K hK => ?_)
    refine Kd.R_lit_step k58 _ 58 ?hg (N := 29) ?hd (xs := ([(⟨zk, zj, ye⟩ : S58)] : List (S58))) (inner := [.string zk, .int .i64 zj, .bool ye]) (ok := fun _ => True) (okp := fun _ => True) ?hr ?hp (fun _ hk => hk) trivial (Below.refl _ _) (Nat.le_refl _) (by simp) ?_; (case hd => rfl); (case hg => rfl); (case hr => first | (go_simp; done) | (go_simp; rfl)); (case hp => exact (Reps.c3 (show Kd.M k58 _ _ _ (⟨zk, zj, ye⟩ : S58) [.string zk, .int .i64 zj, .bool ye] from (k58_mkM _ _ _ (⟨zk, zj, ye⟩ : S58) )) (Reps.none _ _)))
    intro v107 w50 ho51 hb hg_ hnew_
    clear hg_ hnew_
    (first | rw [← Ny106.out] at ho51 | (simp only [Int.reduceToNat] at ho51; rw [← Ny106.out] at ho51))
    have n0_ := qA_ (Kd.R_lower (Kd.R_newB ho51 (g := ze) (o := .cells #[.string zk, .int .i64 zj, .bool ye] 58 (0, 0)) (qzz1_)) (below_size (qzz0_)))
    have n1_ := qA_ (blk_below (g := zg) (o := .cells #[.slice zw zb.length zp, .int .i64 zc] 24 (0, 0)) (qzz3_) hb)
    have n2_ := qA_ (blk_below (g := ze) (o := .cells #[.string zk, .int .i64 zj, .bool ye] 58 (0, 0)) (qzz1_) hb)
    have n3_ := qA_ (below_step (qzz0_) hb)
    have zr := n0_
    replace zd := n1_
    replace za := n2_
    replace HB := n3_
    clear n0_ n1_ n2_ n3_
    clear hb ho51
    obtain ⟨Ao52, co52, eo52⟩ := Kd.R_slice zr.out
    (first | subst eo52 | (injection eo52 with f1_ f2_ f3_; have f4_ := f1_.symm; have f5_ := f3_.symm; clear f1_ f2_ f3_; subst f4_; subst f5_))
    refine hK.out _ _ ⟨(blk_cell zd.out 0).trans rfl, (blk_cell zd.out 1).trans rfl, (blk_cell za.out 0).trans rfl, (blk_cell za.out 1).trans rfl, (blk_cell za.out 2).trans rfl⟩ (fun zm => ?_)
    clear hK K
    refine norm_ (a' := ?_) ?_ ?_
    rotate_left
    ·
     show Act.put _ (some 29) _ = _
     simp only [Act.put, List.setIfInBounds_toArray, List.set_cons_zero, List.set_cons_succ, i64_w, i32_w]
     rfl
    refine one_ (i := 3) (N := some 30) #[true, true, true, true, false, false, false, false, false, false] rfl rfl (one_of HT_.out qk_) (by decide) (fun K hK => ?_)
    refine goes_ Tryz.func26 qk_ rfl #[.slice Ao52 y106.length co52] (by rfl) rfl rfl (qzz10_) ?_
    with_reducible refine (grommetlaw16_theirs.calls kj2 _ _ y106 t109 _ ?side1 ?side2 (hG.below (qzz2_)) A27.out).mono ?_
    (case side1 => exact qzz39_)
    (case side2 => exact qzz40_)
    rintro e w53 ⟨v110, rfl, ho0, hb⟩
    refine ⟨_, rfl, ?_⟩
    have n0_ := qA_ (Kd.R_below (qzz9_) hb)
    have n1_ := qA_ (Kd.R_lower ho0 (below_size (qzz0_)))
    have n2_ := qA_ (blk_below (g := zg) (o := .cells #[.slice zw zb.length zp, .int .i64 zc] 24 (0, 0)) (qzz3_) hb)
    have n3_ := qA_ (blk_below (g := ze) (o := .cells #[.string zk, .int .i64 zj, .bool ye] 58 (0, 0)) (qzz1_) hb)
    have n4_ := qA_ (below_step (qzz0_) hb)
    replace zr := n0_
    have ya := n1_
    replace zd := n2_
    replace za := n3_
    replace HB := n4_
    clear n0_ n1_ n2_ n3_ n4_
    (try clear hb)
    (try clear hb2)
    (try clear hk)
    (try clear hi)
    (try clear ho0)
    obtain ⟨Ao54, co54, eo54⟩ := Kd.R_slice ya.out
    (first | subst eo54 | (injection eo54 with f1_ f2_ f3_; have f4_ := f1_.symm; have f5_ := f3_.symm; clear f1_ f2_ f3_; subst f4_; subst f5_))
    refine hK.out _ _ ⟨(blk_cell zd.out 0).trans rfl, (blk_cell zd.out 1).trans rfl, (blk_cell za.out 0).trans rfl, (blk_cell za.out 1).trans rfl, (blk_cell za.out 2).trans rfl⟩ (fun zm => ?_)
    clear hK K
    refine norm_ (a' := ?_) ?_ ?_
    rotate_left
    ·
     show Act.put _ (some 30) _ = _
     simp only [Act.put, List.setIfInBounds_toArray, List.set_cons_zero, List.set_cons_succ, i64_w, i32_w]
     rfl
    refine one_ (i := 4) (N := some 31) #[true, true, true, true, true, false, false, false, false, false] rfl rfl (one_of HT_.out qk_) (by decide) (fun K hK => ?_)
    refine goes_ Tryz.func25 qk_ rfl #[.agg #[.slice zw zb.length zp, .int .i64 zc], .slice Ao54 t109.length co54] (by rfl) rfl rfl (qzz10_) ?_
    with_reducible refine (path_Get.calls kj2 _ _ zb zc _ _ t109 t112 t113 _ ?side1 ?side2 ?side3 ?side4 (hG.below (qzz2_)) A28.out).mono ?_
    (case side1 => exact qzz38_)
    (case side2 => exact yp.out)
    (case side3 => exact qzz41_)
    (case side4 => exact qzz42_)
    rintro e w55 ⟨rfl, hb⟩
    refine ⟨_, rfl, ?_⟩
    have n0_ := qA_ (Kd.R_below (qzz9_) hb)
    have n1_ := qA_ (Kd.R_below (qzz12_) hb)
    have n2_ := qA_ (blk_below (g := zg) (o := .cells #[.slice zw zb.length zp, .int .i64 zc] 24 (0, 0)) (qzz3_) hb)
    have n3_ := qA_ (blk_below (g := ze) (o := .cells #[.string zk, .int .i64 zj, .bool ye] 58 (0, 0)) (qzz1_) hb)
    have n4_ := qA_ (below_step (qzz0_) hb)
    replace zr := n0_
    replace ya := n1_
    replace zd := n2_
    replace za := n3_
    replace HB := n4_
    clear n0_ n1_ n2_ n3_ n4_
    (try clear hb)
    (try clear hb2)
    (try clear hk)
    (try clear hi)
    refine hK.out _ _ ⟨(blk_cell zd.out 0).trans rfl, (blk_cell zd.out 1).trans rfl, (blk_cell za.out 0).trans rfl, (blk_cell za.out 1).trans rfl, (blk_cell za.out 2).trans rfl⟩ (fun zm => ?_)
    clear hK K
    refine norm_ (a' := ?_) ?_ ?_
    rotate_left
    ·
     show Act.put _ (some 31) _ = _
     simp only [Act.put, List.setIfInBounds_toArray, List.set_cons_zero, List.set_cons_succ, i64_w, i32_w]
     rfl
    refine pure_ (i := 5) (N := some 26) (v := ?_) (a' := ?_) #[true, true, true, true, true, true, false, false, false, false] rfl rfl (any_of HT_.out qk_) (fun _ _ _ h => h) (Or.inl ⟨by rfl, ?_⟩) ?_ ?_
    rotate_left
    exact qzz45_
    rotate_left
    exact qzz44_
    refine pure_ (i := 6) (N := some 32) (v := ?_) (a' := ?_) #[true, true, true, true, true, true, true, false, false, false] rfl rfl (any_of HT_.out qk_) (fun _ _ _ h => h) (Or.inl ⟨by rfl, ?_⟩) ?_ ?_
    rotate_left
    exact qzz45_
    rotate_left
    exact qzz44_
    refine pure_ (i := 7) (N := some 33) (v := ?_) (a' := ?_) #[true, true, true, true, true, true, true, true, false, false] rfl rfl (any_of HT_.out qk_) (fun _ _ _ h => h) (Or.inl ⟨by rfl, ?_⟩) ?_ ?_
    rotate_left
    exact qzz45_
    rotate_left
    exact qzz44_
    refine pure_ (i := 8) (N := some 5) (v := ?_) (a' := ?_) #[true, true, true, true, true, true, true, true, true, false] rfl rfl (any_of HT_.out qk_) (fun _ _ _ h => h) (Or.inl ⟨by rfl, ?_⟩) ?_ ?_
    rotate_left
    exact qzz45_
    rotate_left
    exact qzz44_
    refine pure_ (i := 9) (N := some 6) (v := ?_) (a' := ?_) #[true, true, true, true, true, true, true, true, true, true] rfl rfl (any_of HT_.out qk_) (fun _ _ _ h => h) (Or.inl ⟨by rfl, ?_⟩) ?_ ?_
    rotate_left
    exact qzz45_
    rotate_left
    exact qzz44_
    refine done_ (done_of HT_.out qk_) ?_
    have hnb56 := yk.out
    have hnc56 := yj.out
    have hcz57_0 : w55.cell? ⟨ze, 0, none⟩ = some (.string zk) := (blk_cell za.out 0).trans rfl
    have hcz57_1 : w55.cell? ⟨ze, 1, none⟩ = some (.int .i64 zj) := (blk_cell za.out 1).trans rfl
    have hcz57_2 : w55.cell? ⟨ze, 2, none⟩ = some (.bool ye) := (blk_cell za.out 2).trans rfl
    have hfz57_0 := blk_frozen za.out 0
    have hfz57_1 := blk_frozen za.out 1
    have hfz57_2 := blk_frozen za.out 2
    try go_wp2_with (first | ((with_reducible refine gate_dst (N := 38) rfl ?_); (try (refine gate_guard (by rfl) ?_; dsimp only)); refine Kd.R_lit k58 _ 58 ?hg (N := 38) ?hd (xs := ([(⟨zk, zj, ye⟩ : S58)] : List (S58))) (inner := [.string zk, .int .i64 zj, .bool ye]) (ok := fun _ => True) (okp := fun _ => True) ?hr ?hp (fun _ hk => hk) trivial (Below.refl _ _) (Nat.le_refl _) (by simp) ?_; (case hd => rfl); (case hg => rfl); (case hr => first | (go_simp; done) | (go_simp; rfl)); (case hp => exact (Reps.c3 (show Kd.M k58 _ _ _ (⟨zk, zj, ye⟩ : S58) [.string zk, .int .i64 zj, .bool ye] from (k58_mkM _ _ _ (⟨zk, zj, ye⟩ : S58) )) (Reps.none _ _))); intro v115 w58 ho59 hb hg_ hnew_; clear hg_ hnew_; (first | rw [← Ny114.out] at ho59 | (simp only [Int.reduceToNat] at ho59; rw [← Ny114.out] at ho59)); have n0_ := qA_ (Kd.R_elder' (qzz9_) (Kd.R_base ho59) hb); have n1_ := qA_ (Kd.R_below (qzz12_) hb); have n2_ := qA_ (Kd.R_lower (Kd.R_newB (Kd.R_new' ho59 (Kd.R_lt (qzz9_))) (g := ze) (o := .cells #[.string zk, .int .i64 zj, .bool ye] 58 (0, 0)) (qzz1_)) (below_size (qzz0_))); have n3_ := qA_ (blk_below (g := zg) (o := .cells #[.slice zw zb.length zp, .int .i64 zc] 24 (0, 0)) (qzz3_) hb); have n4_ := qA_ (blk_below (g := ze) (o := .cells #[.string zk, .int .i64 zj, .bool ye] 58 (0, 0)) (qzz1_) hb); have n5_ := qA_ (below_step (qzz0_) hb); replace zr := n0_; replace ya := n1_; have yw := n2_; replace zd := n3_; replace za := n4_; replace HB := n5_; clear n0_ n1_ n2_ n3_ n4_ n5_; clear hb ho59; obtain ⟨Ao60, co60, eo60⟩ := Kd.R_slice yw.out; subst eo60) | ((with_reducible refine gate_callee (f := 26) rfl ?_); refine goesL_ (some 39) rfl rfl Tryz.func26 qk_ rfl #[.slice Ao60 y114.length co60] rfl (qzz10_) ?_; (with_reducible refine (grommetlaw16_theirs.calls kj2 _ _ y114 t117 _ ?side1 ?side2 (hG.below (qzz2_)) A30.out).mono ?_); (case side1 => repeat (first | exact (Kd.R_reads' yw.out).2.2 | (with_reducible refine Kd.C_alloc ?_ _) | (with_reducible refine Kd.C_drewN ?_ _) | (with_reducible refine Kd.C_drew ?_))); (case side2 => exact (Kd.R_reads' yw.out).2.1); rintro e w61 ⟨v118, rfl, ho0, hb⟩; refine ⟨_, rfl, ?_⟩; have n0_ := qA_ (Kd.R_below (qzz9_) hb); have n1_ := qA_ (Kd.R_elder' (qzz12_) (Kd.R_base ho0) hb); have n2_ := qA_ (Kd.R_below (qzz26_) hb); have n3_ := qA_ (Kd.R_lower (Kd.R_new' ho0 (Kd.R_lt (qzz12_))) (below_size (qzz0_))); have n4_ := qA_ (blk_below (g := zg) (o := .cells #[.slice zw zb.length zp, .int .i64 zc] 24 (0, 0)) (qzz3_) hb); have n5_ := qA_ (blk_below (g := ze) (o := .cells #[.string zk, .int .i64 zj, .bool ye] 58 (0, 0)) (qzz1_) hb); have n6_ := qA_ (below_step (qzz0_) hb); replace zr := n0_; replace ya := n1_; replace yw := n2_; have yz := n3_; replace zd := n4_; replace za := n5_; replace HB := n6_; clear n0_ n1_ n2_ n3_ n4_ n5_ n6_; (try clear hb); (try clear hk); (try clear ho0); obtain ⟨Ao62, co62, eo62⟩ := Kd.R_slice yz.out; subst eo62) | ((with_reducible refine gate_callee (f := 28) rfl ?_); refine goesL_ (some 40) rfl rfl Tryz.func28 qk_ rfl #[.slice Ao62 t117.length co62] rfl (qzz10_) ?_; (with_reducible refine (path_Format.calls _ _ t117 t120 t121 _ ?side1 ?side2 (hG.below (qzz2_)) A31.out).mono ?_); (case side1 => repeat (first | exact (Kd.R_reads' yz.out).2.2 | (with_reducible refine Kd.C_alloc ?_ _) | (with_reducible refine Kd.C_drewN ?_ _) | (with_reducible refine Kd.C_drew ?_))); (case side2 => exact (Kd.R_reads' yz.out).2.1); rintro e w63 ⟨rfl, hb⟩; refine ⟨_, rfl, ?_⟩; have n0_ := qA_ (Kd.R_below (qzz9_) hb); have n1_ := qA_ (Kd.R_below (qzz12_) hb); have n2_ := qA_ (Kd.R_below (qzz26_) hb); have n3_ := qA_ (Kd.R_below (qzz30_) hb); have n4_ := qA_ (blk_below (g := zg) (o := .cells #[.slice zw zb.length zp, .int .i64 zc] 24 (0, 0)) (qzz3_) hb); have n5_ := qA_ (blk_below (g := ze) (o := .cells #[.string zk, .int .i64 zj, .bool ye] 58 (0, 0)) (qzz1_) hb); have n6_ := qA_ (below_step (qzz0_) hb); replace zr := n0_; replace ya := n1_; replace yw := n2_; replace yz := n3_; replace zd := n4_; replace za := n5_; replace HB := n6_; clear n0_ n1_ n2_ n3_ n4_ n5_ n6_; (try clear hb); (try clear hk)) | (go_at_call 24; (with_reducible refine (grommetlaw16_alive.calls  t122 _ (hG.below (qzz2_)) A48.out).mono ?_); rintro e w64 ⟨rfl, hb⟩; have n0_ := qA_ (Kd.R_below (qzz9_) hb); have n1_ := qA_ (Kd.R_below (qzz12_) hb); have n2_ := qA_ (Kd.R_below (qzz26_) hb); have n3_ := qA_ (Kd.R_below (qzz30_) hb); have n4_ := qA_ (blk_below (g := zg) (o := .cells #[.slice zw zb.length zp, .int .i64 zc] 24 (0, 0)) (qzz3_) hb); have n5_ := qA_ (blk_below (g := ze) (o := .cells #[.string zk, .int .i64 zj, .bool ye] 58 (0, 0)) (qzz1_) hb); have n6_ := qA_ (below_step (qzz0_) hb); replace zr := n0_; replace ya := n1_; replace yw := n2_; replace yz := n3_; replace zd := n4_; replace za := n5_; replace HB := n6_; clear n0_ n1_ n2_ n3_ n4_ n5_ n6_; (try clear hb); (try clear hk)))
    go_ret
    exact ⟨qzz18_, qzz0_⟩
   rw [if_neg c29] at H
   have c29b0 : (t113 == 1) = false := beq_eq_false_iff_ne.mpr c29
   have c29b1 : (t113 != 1) = true := bne_iff_ne.mpr c29
   by_cases c65 : 0 ≤ zc
   rotate_left
   ·
    rw [if_neg c65] at H
    exact absurd H (by simp)
   rw [if_pos c65] at H
   have c65b0 : decide (0 ≤ zc) = true := decide_eq_true c65
   clear c65
   by_cases c66 : zc < (zb.length : Int)
   rotate_left
   ·
    rw [if_neg c66] at H
    exact absurd H (by simp)
   rw [if_pos c66] at H
   have c66b0 : decide (zc < (zb.length : Int)) = true := decide_eq_true c66
   clear c66
   by_cases c67 : ye = true
   ·
    subst c67
    have H1 : (if ((rd_T45 zb zc).f0) = 5 then (if zj < (((rd_T45 zb zc).f2).length : Int) then (if t113 = 0 then (if 0 ≤ zj then (if t112 = (rd ((rd_T45 zb zc).f2) zj) then ((grommetlaw16_alive.f).bind fun t127 => (some t127)) else (some false)) else (none)) else (some false)) else (if t113 = 6 then ((grommetlaw16_alive.f).bind fun t128 => (some t128)) else (some false))) else (if t113 = 17 then ((grommetlaw16_alive.f).bind fun t125 => (some t125)) else (some false))) = some r := by rw [if_pos rfl] at H; exact H
    clear H
    have H := H1
    clear H1
    by_cases c68 : ((rd_T45 zb zc).f0) = 5
    rotate_left
    ·
     rw [if_neg c68] at H
     have c68b0 : (((rd_T45 zb zc).f0) == 5) = false := beq_eq_false_iff_ne.mpr c68
     have c68b1 : (((rd_T45 zb zc).f0) != 5) = true := bne_iff_ne.mpr c68
     by_cases c148 : t113 = 17
     rotate_left
     ·
      rw [if_neg c148] at H
      have c148b0 : (t113 == 17) = false := beq_eq_false_iff_ne.mpr c148
      have c148b1 : (t113 != 17) = true := bne_iff_ne.mpr c148
      obtain rfl := Option.some.inj H
      try go_wp2
      have n0_ := qA_ (blk_drew zd.out)
      have n1_ := qA_ (blk_drew za.out)
      have n2_ := qA_ (below_drew1 HB.out)
      replace zd := n0_
      replace za := n1_
      replace HB := n2_
      clear n0_ n1_ n2_
      refine start_ (n := 10) (S := fun w' => w'.cell? ⟨zg, 0, none⟩ = some (.slice zw zb.length zp) ∧ w'.cell? ⟨zg, 1, none⟩ = some (.int .i64 zc) ∧ w'.cell? ⟨ze, 0, none⟩ = some (.string zk) ∧ w'.cell? ⟨ze, 1, none⟩ = some (.int .i64 zj) ∧ w'.cell? ⟨ze, 2, none⟩ = some (.bool true)) (ds := []) #[false, false, false, false, false, false, false, false, false, false] qk_ rfl rfl ⟨(blk_cell zd.out 0).trans rfl, (blk_cell zd.out 1).trans rfl, (blk_cell za.out 0).trans rfl, (blk_cell za.out 1).trans rfl, (blk_cell za.out 2).trans rfl⟩ (fun zm => ?_); refine with_tabW grommetlaw16_PathOne.tab3 grommetlaw16_PathOne.bits3 (fun HT_ HW_ => ?_)
      generalize wc.drew = w165 at zd za HB zm ⊢
      refine take_ (i := 0) (N := some 27) (v := ?_) (a' := ?_) #[true, false, false, false, false, false, false, false, false, false] rfl rfl (take_ofW HT_.out HW_.out qk_) (fun _ _ _ h => h) (Or.inl ⟨by rfl, ?_⟩) zm ?_ ?_
      rotate_left
      exact qzz43_
      rotate_left
      exact qzz44_
      refine take_ (i := 1) (N := some 28) (v := ?_) (a' := ?_) #[true, true, false, false, false, false, false, false, false, false] rfl rfl (take_ofW HT_.out HW_.out qk_) (fun _ _ _ h => h) (Or.inl ⟨by rfl, ?_⟩) zm ?_ ?_
      rotate_left
      exact qzz43_
      rotate_left
      exact qzz44_
      refine one_ (i := 2) (N := some 29) #[true, true, true, false, false, false, false, false, false, false] rfl rfl (one_of HT_.out qk_) (by decide) (fun K hK => ?_)
      refine Kd.R_lit_step k58 _ 58 ?hg (N := 29) ?hd (xs := ([(⟨zk, zj, true⟩ : S58)] : List (S58))) (inner := [.string zk, .int .i64 zj, .bool true]) (ok := fun _ => True) (okp := fun _ => True) ?hr ?hp (fun _ hk => hk) trivial (Below.refl _ _) (Nat.le_refl _) (by simp) ?_; (case hd => rfl); (case hg => rfl); (case hr => first | (go_simp; done) | (go_simp; rfl)); (case hp => exact (Reps.c3 (show Kd.M k58 _ _ _ (⟨zk, zj, true⟩ : S58) [.string zk, .int .i64 zj, .bool true] from (k58_mkM _ _ _ (⟨zk, zj, true⟩ : S58) )) (Reps.none _ _)))
      intro v107 w166 ho167 hb hg_ hnew_
      clear hg_ hnew_
      (first | rw [← Ny106.out] at ho167 | (simp only [Int.reduceToNat] at ho167; rw [← Ny106.out] at ho167))
      have n0_ := qA_ (Kd.R_lower (Kd.R_newB ho167 (g := ze) (o := .cells #[.string zk, .int .i64 zj, .bool true] 58 (0, 0)) (qzz1_)) (below_size (qzz0_)))
      have n1_ := qA_ (blk_below (g := zg) (o := .cells #[.slice zw zb.length zp, .int .i64 zc] 24 (0, 0)) (qzz3_) hb)
      have n2_ := qA_ (blk_below (g := ze) (o := .cells #[.string zk, .int .i64 zj, .bool true] 58 (0, 0)) (qzz1_) hb)
      have n3_ := qA_ (below_step (qzz0_) hb)
      have zr := n0_
      replace zd := n1_
      replace za := n2_
      replace HB := n3_
      clear n0_ n1_ n2_ n3_
      clear hb ho167
      obtain ⟨Ao168, co168, eo168⟩ := Kd.R_slice zr.out
      (first | subst eo168 | (injection eo168 with f1_ f2_ f3_; have f4_ := f1_.symm; have f5_ := f3_.symm; clear f1_ f2_ f3_; subst f4_; subst f5_))
      refine hK.out _ _ ⟨(blk_cell zd.out 0).trans rfl, (blk_cell zd.out 1).trans rfl, (blk_cell za.out 0).trans rfl, (blk_cell za.out 1).trans rfl, (blk_cell za.out 2).trans rfl⟩ (fun zm => ?_)
      clear hK K
      refine norm_ (a' := ?_) ?_ ?_
      rotate_left
      ·
       show Act.put _ (some 29) _ = _
       simp only [Act.put, List.setIfInBounds_toArray, List.set_cons_zero, List.set_cons_succ, i64_w, i32_w]
       rfl
      refine one_ (i := 3) (N := some 30) #[true, true, true, true, false, false, false, false, false, false] rfl rfl (one_of HT_.out qk_) (by decide) (fun K hK => ?_)
      refine goes_ Tryz.func26 qk_ rfl #[.slice Ao168 y106.length co168] (by rfl) rfl rfl (qzz10_) ?_
      with_reducible refine (grommetlaw16_theirs.calls kj2 _ _ y106 t109 _ ?side1 ?side2 (hG.below (qzz2_)) A27.out).mono ?_
      (case side1 => exact qzz39_)
      (case side2 => exact qzz40_)
      rintro e w169 ⟨v110, rfl, ho0, hb⟩
      refine ⟨_, rfl, ?_⟩
      have n0_ := qA_ (Kd.R_below (qzz9_) hb)
      have n1_ := qA_ (Kd.R_lower ho0 (below_size (qzz0_)))
      have n2_ := qA_ (blk_below (g := zg) (o := .cells #[.slice zw zb.length zp, .int .i64 zc] 24 (0, 0)) (qzz3_) hb)
      have n3_ := qA_ (blk_below (g := ze) (o := .cells #[.string zk, .int .i64 zj, .bool true] 58 (0, 0)) (qzz1_) hb)
      have n4_ := qA_ (below_step (qzz0_) hb)
      replace zr := n0_
      have ya := n1_
      replace zd := n2_
      replace za := n3_
      replace HB := n4_
      clear n0_ n1_ n2_ n3_ n4_
      (try clear hb)
      (try clear hb2)
      (try clear hk)
      (try clear hi)
      (try clear ho0)
      obtain ⟨Ao170, co170, eo170⟩ := Kd.R_slice ya.out
      (first | subst eo170 | (injection eo170 with f1_ f2_ f3_; have f4_ := f1_.symm; have f5_ := f3_.symm; clear f1_ f2_ f3_; subst f4_; subst f5_))
      refine hK.out _ _ ⟨(blk_cell zd.out 0).trans rfl, (blk_cell zd.out 1).trans rfl, (blk_cell za.out 0).trans rfl, (blk_cell za.out 1).trans rfl, (blk_cell za.out 2).trans rfl⟩ (fun zm => ?_)
      clear hK K
      refine norm_ (a' := ?_) ?_ ?_
      rotate_left
      ·
       show Act.put _ (some 30) _ = _
       simp only [Act.put, List.setIfInBounds_toArray, List.set_cons_zero, List.set_cons_succ, i64_w, i32_w]
       rfl
      refine one_ (i := 4) (N := some 31) #[true, true, true, true, true, false, false, false, false, false] rfl rfl (one_of HT_.out qk_) (by decide) (fun K hK => ?_)
      refine goes_ Tryz.func25 qk_ rfl #[.agg #[.slice zw zb.length zp, .int .i64 zc], .slice Ao170 t109.length co170] (by rfl) rfl rfl (qzz10_) ?_
      with_reducible refine (path_Get.calls kj2 _ _ zb zc _ _ t109 t112 t113 _ ?side1 ?side2 ?side3 ?side4 (hG.below (qzz2_)) A28.out).mono ?_
      (case side1 => exact qzz38_)
      (case side2 => exact yp.out)
      (case side3 => exact qzz41_)
      (case side4 => exact qzz42_)
      rintro e w171 ⟨rfl, hb⟩
      refine ⟨_, rfl, ?_⟩
      have n0_ := qA_ (Kd.R_below (qzz9_) hb)
      have n1_ := qA_ (Kd.R_below (qzz12_) hb)
      have n2_ := qA_ (blk_below (g := zg) (o := .cells #[.slice zw zb.length zp, .int .i64 zc] 24 (0, 0)) (qzz3_) hb)
      have n3_ := qA_ (blk_below (g := ze) (o := .cells #[.string zk, .int .i64 zj, .bool true] 58 (0, 0)) (qzz1_) hb)
      have n4_ := qA_ (below_step (qzz0_) hb)
      replace zr := n0_
      replace ya := n1_
      replace zd := n2_
      replace za := n3_
      replace HB := n4_
      clear n0_ n1_ n2_ n3_ n4_
      (try clear hb)
      (try clear hb2)
      (try clear hk)
      (try clear hi)
      refine hK.out _ _ ⟨(blk_cell zd.out 0).trans rfl, (blk_cell zd.out 1).trans rfl, (blk_cell za.out 0).trans rfl, (blk_cell za.out 1).trans rfl, (blk_cell za.out 2).trans rfl⟩ (fun zm => ?_)
      clear hK K
      refine norm_ (a' := ?_) ?_ ?_
      rotate_left
      ·
       show Act.put _ (some 31) _ = _
       simp only [Act.put, List.setIfInBounds_toArray, List.set_cons_zero, List.set_cons_succ, i64_w, i32_w]
       rfl
      refine pure_ (i := 5) (N := some 26) (v := ?_) (a' := ?_) #[true, true, true, true, true, true, false, false, false, false] rfl rfl (any_of HT_.out qk_) (fun _ _ _ h => h) (Or.inl ⟨by rfl, ?_⟩) ?_ ?_
      rotate_left
      exact qzz45_
      rotate_left
      exact qzz44_
      refine pure_ (i := 6) (N := some 32) (v := ?_) (a' := ?_) #[true, true, true, true, true, true, true, false, false, false] rfl rfl (any_of HT_.out qk_) (fun _ _ _ h => h) (Or.inl ⟨by rfl, ?_⟩) ?_ ?_
      rotate_left
      exact qzz45_
      rotate_left
      exact qzz44_
      refine pure_ (i := 7) (N := some 33) (v := ?_) (a' := ?_) #[true, true, true, true, true, true, true, true, false, false] rfl rfl (any_of HT_.out qk_) (fun _ _ _ h => h) (Or.inl ⟨by rfl, ?_⟩) ?_ ?_
      rotate_left
      exact qzz45_
      rotate_left
      exact qzz44_
      refine pure_ (i := 8) (N := some 5) (v := ?_) (a' := ?_) #[true, true, true, true, true, true, true, true, true, false] rfl rfl (any_of HT_.out qk_) (fun _ _ _ h => h) (Or.inl ⟨by rfl, ?_⟩) ?_ ?_
      rotate_left
      exact qzz45_
      rotate_left
      exact qzz44_
      refine pure_ (i := 9) (N := some 6) (v := ?_) (a' := ?_) #[true, true, true, true, true, true, true, true, true, true] rfl rfl (any_of HT_.out qk_) (fun _ _ _ h => h) (Or.inl ⟨by rfl, ?_⟩) ?_ ?_
      rotate_left
      exact qzz45_
      rotate_left
      exact qzz44_
      refine done_ (done_of HT_.out qk_) ?_
      have hnb172 := yj.out
      have hnc172 := yk.out
      have hcz173_0 : w171.cell? ⟨zg, 0, none⟩ = some (.slice zw zb.length zp) := (blk_cell zd.out 0).trans rfl
      have hcz173_1 : w171.cell? ⟨zg, 1, none⟩ = some (.int .i64 zc) := (blk_cell zd.out 1).trans rfl
      have hfz173_0 := blk_frozen zd.out 0
      have hfz173_1 := blk_frozen zd.out 1
      have p123 : 0 ≤ (zc : Int) := of_decide_eq_true (qzz13_)
      have q123 : zc < (zb.length : Int) := of_decide_eq_true (qzz13_)
      obtain ⟨zq, ym, zu, e123, hx123_0, hx123_1, hx123_2, hl123_2, hi123_2⟩ := at_T45 ys.out zc p123 q123
      have KX123_2 := qA_ hx123_2
      cases e123
      replace hx123_0 := (HB.out.cell (World.block_lt_of_cell? w _ hx123_0)).trans hx123_0
      replace hx123_1 := (HB.out.cell (World.block_lt_of_cell? w _ hx123_1)).trans hx123_1
      replace hx123_2 := (HB.out.cell (World.block_lt_of_cell? w _ hx123_2)).trans hx123_2
      have yn := qA_ hi123_2
      have yt := qA_ hl123_2
      clear hi123_2 hl123_2
      replace p123 := eq_true p123
      replace q123 := eq_true q123
      try go_wp2_with (first | ((with_reducible refine gate_dst (N := 9) rfl ?_); (try (refine gate_guard (by rfl) ?_; dsimp only)); refine box_event ?hg (N := 9) ?hd (cs := #[.int .i64 0, .string (⟨#[]⟩ : ByteArray), .slice none 0 0]) (t := 45) ?hr ?_; (case hd => rfl); (case hg => rfl); (case hr => first | (go_simp; done) | (go_simp; rfl)); intro zh hg w174 hbox hb; have n0_ := qA_ (Kd.R_below (qzz9_) hb); have n1_ := qA_ (Kd.R_below (qzz12_) hb); have n2_ := qA_ (blk_below (g := zg) (o := .cells #[.slice (some zq) zb.length zp, .int .i64 zc] 24 (0, 0)) (qzz3_) hb); have n3_ := qA_ (blk_below (g := ze) (o := .cells #[.string zk, .int .i64 zj, .bool true] 58 (0, 0)) (qzz1_) hb); have n4_ := qA_ (below_step (qzz0_) hb); have n5_ := qA_ (hbox); have n6_ := qA_ ((by rw [hg]; exact (below_size (qzz0_)) : w.heap.size ≤ zh)); have n7_ := qA_ ((by rw [hg]; exact (below_size (qzz0_)) : w.heap.size ≤ zh)); have n8_ := qA_ ((by rw [hg]; exact Nat.ne_of_lt (blk_lt (g := zg) (o := .cells #[.slice (some zq) zb.length zp, .int .i64 zc] 24 (0, 0)) (qzz3_)) : zg ≠ zh)); have n9_ := qA_ ((by rw [hg]; exact Nat.ne_of_gt (blk_lt (g := zg) (o := .cells #[.slice (some zq) zb.length zp, .int .i64 zc] 24 (0, 0)) (qzz3_)) : zh ≠ zg)); have n10_ := qA_ ((by rw [hg]; exact Nat.ne_of_lt (blk_lt (g := ze) (o := .cells #[.string zk, .int .i64 zj, .bool true] 58 (0, 0)) (qzz1_)) : ze ≠ zh)); have n11_ := qA_ ((by rw [hg]; exact Nat.ne_of_gt (blk_lt (g := ze) (o := .cells #[.string zk, .int .i64 zj, .bool true] 58 (0, 0)) (qzz1_)) : zh ≠ ze)); replace zr := n0_; replace ya := n1_; replace zd := n2_; replace za := n3_; replace HB := n4_; have zi := n5_; have yv := n6_; have yy := n7_; have zt := n8_; have zy := n9_; have zs := n10_; have zz := n11_; clear n0_ n1_ n2_ n3_ n4_ n5_ n6_ n7_ n8_ n9_ n10_ n11_; clear hb hbox hg; have hnb175 := zy.out; have hnc175 := zt.out; have hnb176 := zz.out; have hnc176 := zs.out; have hcz177_0 : w174.cell? ⟨zh, 0, none⟩ = some (.int .i64 0) := (blk_cell zi.out 0).trans rfl; have hcz177_1 : w174.cell? ⟨zh, 1, none⟩ = some (.string (⟨#[]⟩ : ByteArray)) := (blk_cell zi.out 1).trans rfl; have hcz177_2 : w174.cell? ⟨zh, 2, none⟩ = some (.slice none 0 0) := (blk_cell zi.out 2).trans rfl; have hfz177_0 := blk_frozen zi.out 0; have hfz177_1 := blk_frozen zi.out 1; have hfz177_2 := blk_frozen zi.out 2; have hcz178_0 : w174.cell? ⟨ze, 0, none⟩ = some (.string zk) := (blk_cell za.out 0).trans rfl; have hcz178_1 : w174.cell? ⟨ze, 1, none⟩ = some (.int .i64 zj) := (blk_cell za.out 1).trans rfl; have hcz178_2 : w174.cell? ⟨ze, 2, none⟩ = some (.bool true) := (blk_cell za.out 2).trans rfl; have hfz178_0 := blk_frozen za.out 0; have hfz178_1 := blk_frozen za.out 1; have hfz178_2 := blk_frozen za.out 2))
      go_ret
      exact ⟨qzz18_, qzz8_⟩
     rw [if_pos c148] at H
     have c148b0 : (t113 == 17) = true := beq_iff_eq.mpr c148
     have c148b1 : (t113 != 17) = false := bne_eq_false_iff_eq.mpr c148
     clear c148
     replace H := Option.bind_eq_some_iff.mp H
     obtain ⟨t125, A1490, H⟩ := H
     replace H : (some t125) = some r := H
     have A149 := qA_ A1490
     clear A1490
     obtain rfl := Option.some.inj H
     try go_wp2
     have n0_ := qA_ (blk_drew zd.out)
     have n1_ := qA_ (blk_drew za.out)
     have n2_ := qA_ (below_drew1 HB.out)
     replace zd := n0_
     replace za := n1_
     replace HB := n2_
     clear n0_ n1_ n2_
     refine start_ (n := 10) (S := fun w' => w'.cell? ⟨zg, 0, none⟩ = some (.slice zw zb.length zp) ∧ w'.cell? ⟨zg, 1, none⟩ = some (.int .i64 zc) ∧ w'.cell? ⟨ze, 0, none⟩ = some (.string zk) ∧ w'.cell? ⟨ze, 1, none⟩ = some (.int .i64 zj) ∧ w'.cell? ⟨ze, 2, none⟩ = some (.bool true)) (ds := []) #[false, false, false, false, false, false, false, false, false, false] qk_ rfl rfl ⟨(blk_cell zd.out 0).trans rfl, (blk_cell zd.out 1).trans rfl, (blk_cell za.out 0).trans rfl, (blk_cell za.out 1).trans rfl, (blk_cell za.out 2).trans rfl⟩ (fun zm => ?_); refine with_tabW grommetlaw16_PathOne.tab3 grommetlaw16_PathOne.bits3 (fun HT_ HW_ => ?_)
     generalize wc.drew = w150 at zd za HB zm ⊢
     refine take_ (i := 0) (N := some 27) (v := ?_) (a' := ?_) #[true, false, false, false, false, false, false, false, false, false] rfl rfl (take_ofW HT_.out HW_.out qk_) (fun _ _ _ h => h) (Or.inl ⟨by rfl, ?_⟩) zm ?_ ?_
     rotate_left
     exact qzz43_
     rotate_left
     exact qzz44_
     refine take_ (i := 1) (N := some 28) (v := ?_) (a' := ?_) #[true, true, false, false, false, false, false, false, false, false] rfl rfl (take_ofW HT_.out HW_.out qk_) (fun _ _ _ h => h) (Or.inl ⟨by rfl, ?_⟩) zm ?_ ?_
     rotate_left
     exact qzz43_
     rotate_left
     exact qzz44_
     refine one_ (i := 2) (N := some 29) #[true, true, true, false, false, false, false, false, false, false] rfl rfl (one_of HT_.out qk_) (by decide) (fun K hK => ?_)
     refine Kd.R_lit_step k58 _ 58 ?hg (N := 29) ?hd (xs := ([(⟨zk, zj, true⟩ : S58)] : List (S58))) (inner := [.string zk, .int .i64 zj, .bool true]) (ok := fun _ => True) (okp := fun _ => True) ?hr ?hp (fun _ hk => hk) trivial (Below.refl _ _) (Nat.le_refl _) (by simp) ?_; (case hd => rfl); (case hg => rfl); (case hr => first | (go_simp; done) | (go_simp; rfl)); (case hp => exact (Reps.c3 (show Kd.M k58 _ _ _ (⟨zk, zj, true⟩ : S58) [.string zk, .int .i64 zj, .bool true] from (k58_mkM _ _ _ (⟨zk, zj, true⟩ : S58) )) (Reps.none _ _)))
     intro v107 w151 ho152 hb hg_ hnew_
     clear hg_ hnew_
     (first | rw [← Ny106.out] at ho152 | (simp only [Int.reduceToNat] at ho152; rw [← Ny106.out] at ho152))
     have n0_ := qA_ (Kd.R_lower (Kd.R_newB ho152 (g := ze) (o := .cells #[.string zk, .int .i64 zj, .bool true] 58 (0, 0)) (qzz1_)) (below_size (qzz0_)))
     have n1_ := qA_ (blk_below (g := zg) (o := .cells #[.slice zw zb.length zp, .int .i64 zc] 24 (0, 0)) (qzz3_) hb)
     have n2_ := qA_ (blk_below (g := ze) (o := .cells #[.string zk, .int .i64 zj, .bool true] 58 (0, 0)) (qzz1_) hb)
     have n3_ := qA_ (below_step (qzz0_) hb)
     have zr := n0_
     replace zd := n1_
     replace za := n2_
     replace HB := n3_
     clear n0_ n1_ n2_ n3_
     clear hb ho152
     obtain ⟨Ao153, co153, eo153⟩ := Kd.R_slice zr.out
     (first | subst eo153 | (injection eo153 with f1_ f2_ f3_; have f4_ := f1_.symm; have f5_ := f3_.symm; clear f1_ f2_ f3_; subst f4_; subst f5_))
     refine hK.out _ _ ⟨(blk_cell zd.out 0).trans rfl, (blk_cell zd.out 1).trans rfl, (blk_cell za.out 0).trans rfl, (blk_cell za.out 1).trans rfl, (blk_cell za.out 2).trans rfl⟩ (fun zm => ?_)
     clear hK K
     refine norm_ (a' := ?_) ?_ ?_
     rotate_left
     ·
      show Act.put _ (some 29) _ = _
      simp only [Act.put, List.setIfInBounds_toArray, List.set_cons_zero, List.set_cons_succ, i64_w, i32_w]
      rfl
     refine one_ (i := 3) (N := some 30) #[true, true, true, true, false, false, false, false, false, false] rfl rfl (one_of HT_.out qk_) (by decide) (fun K hK => ?_)
     refine goes_ Tryz.func26 qk_ rfl #[.slice Ao153 y106.length co153] (by rfl) rfl rfl (qzz10_) ?_
     with_reducible refine (grommetlaw16_theirs.calls kj2 _ _ y106 t109 _ ?side1 ?side2 (hG.below (qzz2_)) A27.out).mono ?_
     (case side1 => exact qzz39_)
     (case side2 => exact qzz40_)
     rintro e w154 ⟨v110, rfl, ho0, hb⟩
     refine ⟨_, rfl, ?_⟩
     have n0_ := qA_ (Kd.R_below (qzz9_) hb)
     have n1_ := qA_ (Kd.R_lower ho0 (below_size (qzz0_)))
     have n2_ := qA_ (blk_below (g := zg) (o := .cells #[.slice zw zb.length zp, .int .i64 zc] 24 (0, 0)) (qzz3_) hb)
     have n3_ := qA_ (blk_below (g := ze) (o := .cells #[.string zk, .int .i64 zj, .bool true] 58 (0, 0)) (qzz1_) hb)
     have n4_ := qA_ (below_step (qzz0_) hb)
     replace zr := n0_
     have ya := n1_
     replace zd := n2_
     replace za := n3_
     replace HB := n4_
     clear n0_ n1_ n2_ n3_ n4_
     (try clear hb)
     (try clear hb2)
     (try clear hk)
     (try clear hi)
     (try clear ho0)
     obtain ⟨Ao155, co155, eo155⟩ := Kd.R_slice ya.out
     (first | subst eo155 | (injection eo155 with f1_ f2_ f3_; have f4_ := f1_.symm; have f5_ := f3_.symm; clear f1_ f2_ f3_; subst f4_; subst f5_))
     refine hK.out _ _ ⟨(blk_cell zd.out 0).trans rfl, (blk_cell zd.out 1).trans rfl, (blk_cell za.out 0).trans rfl, (blk_cell za.out 1).trans rfl, (blk_cell za.out 2).trans rfl⟩ (fun zm => ?_)
     clear hK K
     refine norm_ (a' := ?_) ?_ ?_
     rotate_left
     ·
      show Act.put _ (some 30) _ = _
      simp only [Act.put, List.setIfInBounds_toArray, List.set_cons_zero, List.set_cons_succ, i64_w, i32_w]
      rfl
     refine one_ (i := 4) (N := some 31) #[true, true, true, true, true, false, false, false, false, false] rfl rfl (one_of HT_.out qk_) (by decide) (fun K hK => ?_)
     refine goes_ Tryz.func25 qk_ rfl #[.agg #[.slice zw zb.length zp, .int .i64 zc], .slice Ao155 t109.length co155] (by rfl) rfl rfl (qzz10_) ?_
     with_reducible refine (path_Get.calls kj2 _ _ zb zc _ _ t109 t112 t113 _ ?side1 ?side2 ?side3 ?side4 (hG.below (qzz2_)) A28.out).mono ?_
     (case side1 => exact qzz38_)
     (case side2 => exact yp.out)
     (case side3 => exact qzz41_)
     (case side4 => exact qzz42_)
     rintro e w156 ⟨rfl, hb⟩
     refine ⟨_, rfl, ?_⟩
     have n0_ := qA_ (Kd.R_below (qzz9_) hb)
     have n1_ := qA_ (Kd.R_below (qzz12_) hb)
     have n2_ := qA_ (blk_below (g := zg) (o := .cells #[.slice zw zb.length zp, .int .i64 zc] 24 (0, 0)) (qzz3_) hb)
     have n3_ := qA_ (blk_below (g := ze) (o := .cells #[.string zk, .int .i64 zj, .bool true] 58 (0, 0)) (qzz1_) hb)
     have n4_ := qA_ (below_step (qzz0_) hb)
     replace zr := n0_
     replace ya := n1_
     replace zd := n2_
     replace za := n3_
     replace HB := n4_
     clear n0_ n1_ n2_ n3_ n4_
     (try clear hb)
     (try clear hb2)
     (try clear hk)
     (try clear hi)
     refine hK.out _ _ ⟨(blk_cell zd.out 0).trans rfl, (blk_cell zd.out 1).trans rfl, (blk_cell za.out 0).trans rfl, (blk_cell za.out 1).trans rfl, (blk_cell za.out 2).trans rfl⟩ (fun zm => ?_)
     clear hK K
     refine norm_ (a' := ?_) ?_ ?_
     rotate_left
     ·
      show Act.put _ (some 31) _ = _
      simp only [Act.put, List.setIfInBounds_toArray, List.set_cons_zero, List.set_cons_succ, i64_w, i32_w]
      rfl
     refine pure_ (i := 5) (N := some 26) (v := ?_) (a' := ?_) #[true, true, true, true, true, true, false, false, false, false] rfl rfl (any_of HT_.out qk_) (fun _ _ _ h => h) (Or.inl ⟨by rfl, ?_⟩) ?_ ?_
     rotate_left
     exact qzz45_
     rotate_left
     exact qzz44_
     refine pure_ (i := 6) (N := some 32) (v := ?_) (a' := ?_) #[true, true, true, true, true, true, true, false, false, false] rfl rfl (any_of HT_.out qk_) (fun _ _ _ h => h) (Or.inl ⟨by rfl, ?_⟩) ?_ ?_
     rotate_left
     exact qzz45_
     rotate_left
     exact qzz44_
     refine pure_ (i := 7) (N := some 33) (v := ?_) (a' := ?_) #[true, true, true, true, true, true, true, true, false, false] rfl rfl (any_of HT_.out qk_) (fun _ _ _ h => h) (Or.inl ⟨by rfl, ?_⟩) ?_ ?_
     rotate_left
     exact qzz45_
     rotate_left
     exact qzz44_
     refine pure_ (i := 8) (N := some 5) (v := ?_) (a' := ?_) #[true, true, true, true, true, true, true, true, true, false] rfl rfl (any_of HT_.out qk_) (fun _ _ _ h => h) (Or.inl ⟨by rfl, ?_⟩) ?_ ?_
     rotate_left
     exact qzz45_
     rotate_left
     exact qzz44_
     refine pure_ (i := 9) (N := some 6) (v := ?_) (a' := ?_) #[true, true, true, true, true, true, true, true, true, true] rfl rfl (any_of HT_.out qk_) (fun _ _ _ h => h) (Or.inl ⟨by rfl, ?_⟩) ?_ ?_
     rotate_left
     exact qzz45_
     rotate_left
     exact qzz44_
     refine done_ (done_of HT_.out qk_) ?_
     have hnb157 := yj.out
     have hnc157 := yk.out
     have hcz158_0 : w156.cell? ⟨zg, 0, none⟩ = some (.slice zw zb.length zp) := (blk_cell zd.out 0).trans rfl
     have hcz158_1 : w156.cell? ⟨zg, 1, none⟩ = some (.int .i64 zc) := (blk_cell zd.out 1).trans rfl
     have hfz158_0 := blk_frozen zd.out 0
     have hfz158_1 := blk_frozen zd.out 1
     have p123 : 0 ≤ (zc : Int) := of_decide_eq_true (qzz13_)
     have q123 : zc < (zb.length : Int) := of_decide_eq_true (qzz13_)
     obtain ⟨zq, ym, zu, e123, hx123_0, hx123_1, hx123_2, hl123_2, hi123_2⟩ := at_T45 ys.out zc p123 q123
     have KX123_2 := qA_ hx123_2
     cases e123
     replace hx123_0 := (HB.out.cell (World.block_lt_of_cell? w _ hx123_0)).trans hx123_0
     replace hx123_1 := (HB.out.cell (World.block_lt_of_cell? w _ hx123_1)).trans hx123_1
     replace hx123_2 := (HB.out.cell (World.block_lt_of_cell? w _ hx123_2)).trans hx123_2
     have yn := qA_ hi123_2
     have yt := qA_ hl123_2
     clear hi123_2 hl123_2
     replace p123 := eq_true p123
     replace q123 := eq_true q123
     try go_wp2_with (first | ((with_reducible refine gate_dst (N := 9) rfl ?_); (try (refine gate_guard (by rfl) ?_; dsimp only)); refine box_event ?hg (N := 9) ?hd (cs := #[.int .i64 0, .string (⟨#[]⟩ : ByteArray), .slice none 0 0]) (t := 45) ?hr ?_; (case hd => rfl); (case hg => rfl); (case hr => first | (go_simp; done) | (go_simp; rfl)); intro zh hg w159 hbox hb; have n0_ := qA_ (Kd.R_below (qzz9_) hb); have n1_ := qA_ (Kd.R_below (qzz12_) hb); have n2_ := qA_ (blk_below (g := zg) (o := .cells #[.slice (some zq) zb.length zp, .int .i64 zc] 24 (0, 0)) (qzz3_) hb); have n3_ := qA_ (blk_below (g := ze) (o := .cells #[.string zk, .int .i64 zj, .bool true] 58 (0, 0)) (qzz1_) hb); have n4_ := qA_ (below_step (qzz0_) hb); have n5_ := qA_ (hbox); have n6_ := qA_ ((by rw [hg]; exact (below_size (qzz0_)) : w.heap.size ≤ zh)); have n7_ := qA_ ((by rw [hg]; exact (below_size (qzz0_)) : w.heap.size ≤ zh)); have n8_ := qA_ ((by rw [hg]; exact Nat.ne_of_lt (blk_lt (g := zg) (o := .cells #[.slice (some zq) zb.length zp, .int .i64 zc] 24 (0, 0)) (qzz3_)) : zg ≠ zh)); have n9_ := qA_ ((by rw [hg]; exact Nat.ne_of_gt (blk_lt (g := zg) (o := .cells #[.slice (some zq) zb.length zp, .int .i64 zc] 24 (0, 0)) (qzz3_)) : zh ≠ zg)); have n10_ := qA_ ((by rw [hg]; exact Nat.ne_of_lt (blk_lt (g := ze) (o := .cells #[.string zk, .int .i64 zj, .bool true] 58 (0, 0)) (qzz1_)) : ze ≠ zh)); have n11_ := qA_ ((by rw [hg]; exact Nat.ne_of_gt (blk_lt (g := ze) (o := .cells #[.string zk, .int .i64 zj, .bool true] 58 (0, 0)) (qzz1_)) : zh ≠ ze)); replace zr := n0_; replace ya := n1_; replace zd := n2_; replace za := n3_; replace HB := n4_; have zi := n5_; have yv := n6_; have yy := n7_; have zt := n8_; have zy := n9_; have zs := n10_; have zz := n11_; clear n0_ n1_ n2_ n3_ n4_ n5_ n6_ n7_ n8_ n9_ n10_ n11_; clear hb hbox hg; have hnb160 := zy.out; have hnc160 := zt.out; have hnb161 := zz.out; have hnc161 := zs.out; have hcz162_0 : w159.cell? ⟨zh, 0, none⟩ = some (.int .i64 0) := (blk_cell zi.out 0).trans rfl; have hcz162_1 : w159.cell? ⟨zh, 1, none⟩ = some (.string (⟨#[]⟩ : ByteArray)) := (blk_cell zi.out 1).trans rfl; have hcz162_2 : w159.cell? ⟨zh, 2, none⟩ = some (.slice none 0 0) := (blk_cell zi.out 2).trans rfl; have hfz162_0 := blk_frozen zi.out 0; have hfz162_1 := blk_frozen zi.out 1; have hfz162_2 := blk_frozen zi.out 2; have hcz163_0 : w159.cell? ⟨ze, 0, none⟩ = some (.string zk) := (blk_cell za.out 0).trans rfl; have hcz163_1 : w159.cell? ⟨ze, 1, none⟩ = some (.int .i64 zj) := (blk_cell za.out 1).trans rfl; have hcz163_2 : w159.cell? ⟨ze, 2, none⟩ = some (.bool true) := (blk_cell za.out 2).trans rfl; have hfz163_0 := blk_frozen za.out 0; have hfz163_1 := blk_frozen za.out 1; have hfz163_2 := blk_frozen za.out 2) | (go_at_call 24; (with_reducible refine (grommetlaw16_alive.calls  t125 _ (hG.below (qzz2_)) A149.out).mono ?_); rintro e w164 ⟨rfl, hb⟩; have n0_ := qA_ (Kd.R_below (qzz23_) hb); have n1_ := qA_ (Kd.R_below (qzz22_) hb); have n2_ := qA_ (blk_below (g := zg) (o := .cells #[.slice (some zq) zb.length zp, .int .i64 zc] 24 (0, 0)) (qzz15_) hb); have n3_ := qA_ (blk_below (g := ze) (o := .cells #[.string zk, .int .i64 zj, .bool true] 58 (0, 0)) (qzz14_) hb); have n4_ := qA_ (blk_below (g := zh) (o := .cells #[.int .i64 ((rd_T45 zb zc).f0), .string ((rd_T45 zb zc).f1), .slice ym ((rd_T45 zb zc).f2).length zu] 45 (0, 0)) (qzz11_) hb); have n5_ := qA_ (below_step (qzz8_) hb); replace zr := n0_; replace ya := n1_; replace zd := n2_; replace za := n3_; replace zi := n4_; replace HB := n5_; clear n0_ n1_ n2_ n3_ n4_ n5_; (try clear hb); (try clear hk)))
     go_ret
     exact ⟨qzz18_, qzz8_⟩
    rw [if_pos c68] at H
    have c68b0 : (((rd_T45 zb zc).f0) == 5) = true := beq_iff_eq.mpr c68
    have c68b1 : (((rd_T45 zb zc).f0) != 5) = false := bne_eq_false_iff_eq.mpr c68
    clear c68
    by_cases c69 : zj < (((rd_T45 zb zc).f2).length : Int)
    rotate_left
    ·
     rw [if_neg c69] at H
     have c69b0 : decide (zj < (((rd_T45 zb zc).f2).length : Int)) = false := decide_eq_false c69
     clear c69
     by_cases c117 : t113 = 6
     rotate_left
     ·
      rw [if_neg c117] at H
      have c117b0 : (t113 == 6) = false := beq_eq_false_iff_ne.mpr c117
      have c117b1 : (t113 != 6) = true := bne_iff_ne.mpr c117
      obtain rfl := Option.some.inj H
      try go_wp2
      have n0_ := qA_ (blk_drew zd.out)
      have n1_ := qA_ (blk_drew za.out)
      have n2_ := qA_ (below_drew1 HB.out)
      replace zd := n0_
      replace za := n1_
      replace HB := n2_
      clear n0_ n1_ n2_
      refine start_ (n := 10) (S := fun w' => w'.cell? ⟨zg, 0, none⟩ = some (.slice zw zb.length zp) ∧ w'.cell? ⟨zg, 1, none⟩ = some (.int .i64 zc) ∧ w'.cell? ⟨ze, 0, none⟩ = some (.string zk) ∧ w'.cell? ⟨ze, 1, none⟩ = some (.int .i64 zj) ∧ w'.cell? ⟨ze, 2, none⟩ = some (.bool true)) (ds := []) #[false, false, false, false, false, false, false, false, false, false] qk_ rfl rfl ⟨(blk_cell zd.out 0).trans rfl, (blk_cell zd.out 1).trans rfl, (blk_cell za.out 0).trans rfl, (blk_cell za.out 1).trans rfl, (blk_cell za.out 2).trans rfl⟩ (fun zm => ?_); refine with_tabW grommetlaw16_PathOne.tab3 grommetlaw16_PathOne.bits3 (fun HT_ HW_ => ?_)
      generalize wc.drew = w134 at zd za HB zm ⊢
      refine take_ (i := 0) (N := some 27) (v := ?_) (a' := ?_) #[true, false, false, false, false, false, false, false, false, false] rfl rfl (take_ofW HT_.out HW_.out qk_) (fun _ _ _ h => h) (Or.inl ⟨by rfl, ?_⟩) zm ?_ ?_
      rotate_left
      exact qzz43_
      rotate_left
      exact qzz44_
      refine take_ (i := 1) (N := some 28) (v := ?_) (a' := ?_) #[true, true, false, false, false, false, false, false, false, false] rfl rfl (take_ofW HT_.out HW_.out qk_) (fun _ _ _ h => h) (Or.inl ⟨by rfl, ?_⟩) zm ?_ ?_
      rotate_left
      exact qzz43_
      rotate_left
      exact qzz44_
      refine one_ (i := 2) (N := some 29) #[true, true, true, false, false, false, false, false, false, false] rfl rfl (one_of HT_.out qk_) (by decide) (fun K hK => ?_)
      refine Kd.R_lit_step k58 _ 58 ?hg (N := 29) ?hd (xs := ([(⟨zk, zj, true⟩ : S58)] : List (S58))) (inner := [.string zk, .int .i64 zj, .bool true]) (ok := fun _ => True) (okp := fun _ => True) ?hr ?hp (fun _ hk => hk) trivial (Below.refl _ _) (Nat.le_refl _) (by simp) ?_; (case hd => rfl); (case hg => rfl); (case hr => first | (go_simp; done) | (go_simp; rfl)); (case hp => exact (Reps.c3 (show Kd.M k58 _ _ _ (⟨zk, zj, true⟩ : S58) [.string zk, .int .i64 zj, .bool true] from (k58_mkM _ _ _ (⟨zk, zj, true⟩ : S58) )) (Reps.none _ _)))
      intro v107 w135 ho136 hb hg_ hnew_
      clear hg_ hnew_
      (first | rw [← Ny106.out] at ho136 | (simp only [Int.reduceToNat] at ho136; rw [← Ny106.out] at ho136))
      have n0_ := qA_ (Kd.R_lower (Kd.R_newB ho136 (g := ze) (o := .cells #[.string zk, .int .i64 zj, .bool true] 58 (0, 0)) (qzz1_)) (below_size (qzz0_)))
      have n1_ := qA_ (blk_below (g := zg) (o := .cells #[.slice zw zb.length zp, .int .i64 zc] 24 (0, 0)) (qzz3_) hb)
      have n2_ := qA_ (blk_below (g := ze) (o := .cells #[.string zk, .int .i64 zj, .bool true] 58 (0, 0)) (qzz1_) hb)
      have n3_ := qA_ (below_step (qzz0_) hb)
      have zr := n0_
      replace zd := n1_
      replace za := n2_
      replace HB := n3_
      clear n0_ n1_ n2_ n3_
      clear hb ho136
      obtain ⟨Ao137, co137, eo137⟩ := Kd.R_slice zr.out
      (first | subst eo137 | (injection eo137 with f1_ f2_ f3_; have f4_ := f1_.symm; have f5_ := f3_.symm; clear f1_ f2_ f3_; subst f4_; subst f5_))
      refine hK.out _ _ ⟨(blk_cell zd.out 0).trans rfl, (blk_cell zd.out 1).trans rfl, (blk_cell za.out 0).trans rfl, (blk_cell za.out 1).trans rfl, (blk_cell za.out 2).trans rfl⟩ (fun zm => ?_)
      clear hK K
      refine norm_ (a' := ?_) ?_ ?_
      rotate_left
      ·
       show Act.put _ (some 29) _ = _
       simp only [Act.put, List.setIfInBounds_toArray, List.set_cons_zero, List.set_cons_succ, i64_w, i32_w]
       rfl
      refine one_ (i := 3) (N := some 30) #[true, true, true, true, false, false, false, false, false, false] rfl rfl (one_of HT_.out qk_) (by decide) (fun K hK => ?_)
      refine goes_ Tryz.func26 qk_ rfl #[.slice Ao137 y106.length co137] (by rfl) rfl rfl (qzz10_) ?_
      with_reducible refine (grommetlaw16_theirs.calls kj2 _ _ y106 t109 _ ?side1 ?side2 (hG.below (qzz2_)) A27.out).mono ?_
      (case side1 => exact qzz39_)
      (case side2 => exact qzz40_)
      rintro e w138 ⟨v110, rfl, ho0, hb⟩
      refine ⟨_, rfl, ?_⟩
      have n0_ := qA_ (Kd.R_below (qzz9_) hb)
      have n1_ := qA_ (Kd.R_lower ho0 (below_size (qzz0_)))
      have n2_ := qA_ (blk_below (g := zg) (o := .cells #[.slice zw zb.length zp, .int .i64 zc] 24 (0, 0)) (qzz3_) hb)
      have n3_ := qA_ (blk_below (g := ze) (o := .cells #[.string zk, .int .i64 zj, .bool true] 58 (0, 0)) (qzz1_) hb)
      have n4_ := qA_ (below_step (qzz0_) hb)
      replace zr := n0_
      have ya := n1_
      replace zd := n2_
      replace za := n3_
      replace HB := n4_
      clear n0_ n1_ n2_ n3_ n4_
      (try clear hb)
      (try clear hb2)
      (try clear hk)
      (try clear hi)
      (try clear ho0)
      obtain ⟨Ao139, co139, eo139⟩ := Kd.R_slice ya.out
      (first | subst eo139 | (injection eo139 with f1_ f2_ f3_; have f4_ := f1_.symm; have f5_ := f3_.symm; clear f1_ f2_ f3_; subst f4_; subst f5_))
      refine hK.out _ _ ⟨(blk_cell zd.out 0).trans rfl, (blk_cell zd.out 1).trans rfl, (blk_cell za.out 0).trans rfl, (blk_cell za.out 1).trans rfl, (blk_cell za.out 2).trans rfl⟩ (fun zm => ?_)
      clear hK K
      refine norm_ (a' := ?_) ?_ ?_
      rotate_left
      ·
       show Act.put _ (some 30) _ = _
       simp only [Act.put, List.setIfInBounds_toArray, List.set_cons_zero, List.set_cons_succ, i64_w, i32_w]
       rfl
      refine one_ (i := 4) (N := some 31) #[true, true, true, true, true, false, false, false, false, false] rfl rfl (one_of HT_.out qk_) (by decide) (fun K hK => ?_)
      refine goes_ Tryz.func25 qk_ rfl #[.agg #[.slice zw zb.length zp, .int .i64 zc], .slice Ao139 t109.length co139] (by rfl) rfl rfl (qzz10_) ?_
      with_reducible refine (path_Get.calls kj2 _ _ zb zc _ _ t109 t112 t113 _ ?side1 ?side2 ?side3 ?side4 (hG.below (qzz2_)) A28.out).mono ?_
      (case side1 => exact qzz38_)
      (case side2 => exact yp.out)
      (case side3 => exact qzz41_)
      (case side4 => exact qzz42_)
      rintro e w140 ⟨rfl, hb⟩
      refine ⟨_, rfl, ?_⟩
      have n0_ := qA_ (Kd.R_below (qzz9_) hb)
      have n1_ := qA_ (Kd.R_below (qzz12_) hb)
      have n2_ := qA_ (blk_below (g := zg) (o := .cells #[.slice zw zb.length zp, .int .i64 zc] 24 (0, 0)) (qzz3_) hb)
      have n3_ := qA_ (blk_below (g := ze) (o := .cells #[.string zk, .int .i64 zj, .bool true] 58 (0, 0)) (qzz1_) hb)
      have n4_ := qA_ (below_step (qzz0_) hb)
      replace zr := n0_
      replace ya := n1_
      replace zd := n2_
      replace za := n3_
      replace HB := n4_
      clear n0_ n1_ n2_ n3_ n4_
      (try clear hb)
      (try clear hb2)
      (try clear hk)
      (try clear hi)
      refine hK.out _ _ ⟨(blk_cell zd.out 0).trans rfl, (blk_cell zd.out 1).trans rfl, (blk_cell za.out 0).trans rfl, (blk_cell za.out 1).trans rfl, (blk_cell za.out 2).trans rfl⟩ (fun zm => ?_)
      clear hK K
      refine norm_ (a' := ?_) ?_ ?_
      rotate_left
      ·
       show Act.put _ (some 31) _ = _
       simp only [Act.put, List.setIfInBounds_toArray, List.set_cons_zero, List.set_cons_succ, i64_w, i32_w]
       rfl
      refine pure_ (i := 5) (N := some 26) (v := ?_) (a' := ?_) #[true, true, true, true, true, true, false, false, false, false] rfl rfl (any_of HT_.out qk_) (fun _ _ _ h => h) (Or.inl ⟨by rfl, ?_⟩) ?_ ?_
      rotate_left
      exact qzz45_
      rotate_left
      exact qzz44_
      refine pure_ (i := 6) (N := some 32) (v := ?_) (a' := ?_) #[true, true, true, true, true, true, true, false, false, false] rfl rfl (any_of HT_.out qk_) (fun _ _ _ h => h) (Or.inl ⟨by rfl, ?_⟩) ?_ ?_
      rotate_left
      exact qzz45_
      rotate_left
      exact qzz44_
      refine pure_ (i := 7) (N := some 33) (v := ?_) (a' := ?_) #[true, true, true, true, true, true, true, true, false, false] rfl rfl (any_of HT_.out qk_) (fun _ _ _ h => h) (Or.inl ⟨by rfl, ?_⟩) ?_ ?_
      rotate_left
      exact qzz45_
      rotate_left
      exact qzz44_
      refine pure_ (i := 8) (N := some 5) (v := ?_) (a' := ?_) #[true, true, true, true, true, true, true, true, true, false] rfl rfl (any_of HT_.out qk_) (fun _ _ _ h => h) (Or.inl ⟨by rfl, ?_⟩) ?_ ?_
      rotate_left
      exact qzz45_
      rotate_left
      exact qzz44_
      refine pure_ (i := 9) (N := some 6) (v := ?_) (a' := ?_) #[true, true, true, true, true, true, true, true, true, true] rfl rfl (any_of HT_.out qk_) (fun _ _ _ h => h) (Or.inl ⟨by rfl, ?_⟩) ?_ ?_
      rotate_left
      exact qzz45_
      rotate_left
      exact qzz44_
      refine done_ (done_of HT_.out qk_) ?_
      have hnb141 := yj.out
      have hnc141 := yk.out
      have hcz142_0 : w140.cell? ⟨zg, 0, none⟩ = some (.slice zw zb.length zp) := (blk_cell zd.out 0).trans rfl
      have hcz142_1 : w140.cell? ⟨zg, 1, none⟩ = some (.int .i64 zc) := (blk_cell zd.out 1).trans rfl
      have hfz142_0 := blk_frozen zd.out 0
      have hfz142_1 := blk_frozen zd.out 1
      have p123 : 0 ≤ (zc : Int) := of_decide_eq_true (qzz13_)
      have q123 : zc < (zb.length : Int) := of_decide_eq_true (qzz13_)
      obtain ⟨zq, ym, zu, e123, hx123_0, hx123_1, hx123_2, hl123_2, hi123_2⟩ := at_T45 ys.out zc p123 q123
      have KX123_2 := qA_ hx123_2
      cases e123
      replace hx123_0 := (HB.out.cell (World.block_lt_of_cell? w _ hx123_0)).trans hx123_0
      replace hx123_1 := (HB.out.cell (World.block_lt_of_cell? w _ hx123_1)).trans hx123_1
      replace hx123_2 := (HB.out.cell (World.block_lt_of_cell? w _ hx123_2)).trans hx123_2
      have yn := qA_ hi123_2
      have yt := qA_ hl123_2
      clear hi123_2 hl123_2
      replace p123 := eq_true p123
      replace q123 := eq_true q123
      try go_wp2_with (first | ((with_reducible refine gate_dst (N := 9) rfl ?_); (try (refine gate_guard (by rfl) ?_; dsimp only)); refine box_event ?hg (N := 9) ?hd (cs := #[.int .i64 0, .string (⟨#[]⟩ : ByteArray), .slice none 0 0]) (t := 45) ?hr ?_; (case hd => rfl); (case hg => rfl); (case hr => first | (go_simp; done) | (go_simp; rfl)); intro zh hg w143 hbox hb; have n0_ := qA_ (Kd.R_below (qzz9_) hb); have n1_ := qA_ (Kd.R_below (qzz12_) hb); have n2_ := qA_ (blk_below (g := zg) (o := .cells #[.slice (some zq) zb.length zp, .int .i64 zc] 24 (0, 0)) (qzz3_) hb); have n3_ := qA_ (blk_below (g := ze) (o := .cells #[.string zk, .int .i64 zj, .bool true] 58 (0, 0)) (qzz1_) hb); have n4_ := qA_ (below_step (qzz0_) hb); have n5_ := qA_ (hbox); have n6_ := qA_ ((by rw [hg]; exact (below_size (qzz0_)) : w.heap.size ≤ zh)); have n7_ := qA_ ((by rw [hg]; exact (below_size (qzz0_)) : w.heap.size ≤ zh)); have n8_ := qA_ ((by rw [hg]; exact Nat.ne_of_lt (blk_lt (g := zg) (o := .cells #[.slice (some zq) zb.length zp, .int .i64 zc] 24 (0, 0)) (qzz3_)) : zg ≠ zh)); have n9_ := qA_ ((by rw [hg]; exact Nat.ne_of_gt (blk_lt (g := zg) (o := .cells #[.slice (some zq) zb.length zp, .int .i64 zc] 24 (0, 0)) (qzz3_)) : zh ≠ zg)); have n10_ := qA_ ((by rw [hg]; exact Nat.ne_of_lt (blk_lt (g := ze) (o := .cells #[.string zk, .int .i64 zj, .bool true] 58 (0, 0)) (qzz1_)) : ze ≠ zh)); have n11_ := qA_ ((by rw [hg]; exact Nat.ne_of_gt (blk_lt (g := ze) (o := .cells #[.string zk, .int .i64 zj, .bool true] 58 (0, 0)) (qzz1_)) : zh ≠ ze)); replace zr := n0_; replace ya := n1_; replace zd := n2_; replace za := n3_; replace HB := n4_; have zi := n5_; have yv := n6_; have yy := n7_; have zt := n8_; have zy := n9_; have zs := n10_; have zz := n11_; clear n0_ n1_ n2_ n3_ n4_ n5_ n6_ n7_ n8_ n9_ n10_ n11_; clear hb hbox hg; have hnb144 := zy.out; have hnc144 := zt.out; have hnb145 := zz.out; have hnc145 := zs.out; have hcz146_0 : w143.cell? ⟨zh, 0, none⟩ = some (.int .i64 0) := (blk_cell zi.out 0).trans rfl; have hcz146_1 : w143.cell? ⟨zh, 1, none⟩ = some (.string (⟨#[]⟩ : ByteArray)) := (blk_cell zi.out 1).trans rfl; have hcz146_2 : w143.cell? ⟨zh, 2, none⟩ = some (.slice none 0 0) := (blk_cell zi.out 2).trans rfl; have hfz146_0 := blk_frozen zi.out 0; have hfz146_1 := blk_frozen zi.out 1; have hfz146_2 := blk_frozen zi.out 2; have hcz147_0 : w143.cell? ⟨ze, 0, none⟩ = some (.string zk) := (blk_cell za.out 0).trans rfl; have hcz147_1 : w143.cell? ⟨ze, 1, none⟩ = some (.int .i64 zj) := (blk_cell za.out 1).trans rfl; have hcz147_2 : w143.cell? ⟨ze, 2, none⟩ = some (.bool true) := (blk_cell za.out 2).trans rfl; have hfz147_0 := blk_frozen za.out 0; have hfz147_1 := blk_frozen za.out 1; have hfz147_2 := blk_frozen za.out 2))
      go_ret
      exact ⟨qzz18_, qzz8_⟩
     rw [if_pos c117] at H
     have c117b0 : (t113 == 6) = true := beq_iff_eq.mpr c117
     have c117b1 : (t113 != 6) = false := bne_eq_false_iff_eq.mpr c117
     clear c117
     replace H := Option.bind_eq_some_iff.mp H
     obtain ⟨t128, A1180, H⟩ := H
     replace H : (some t128) = some r := H
     have A118 := qA_ A1180
     clear A1180
     obtain rfl := Option.some.inj H
     try go_wp2
     have n0_ := qA_ (blk_drew zd.out)
     have n1_ := qA_ (blk_drew za.out)
     have n2_ := qA_ (below_drew1 HB.out)
     replace zd := n0_
     replace za := n1_
     replace HB := n2_
     clear n0_ n1_ n2_
     refine start_ (n := 10) (S := fun w' => w'.cell? ⟨zg, 0, none⟩ = some (.slice zw zb.length zp) ∧ w'.cell? ⟨zg, 1, none⟩ = some (.int .i64 zc) ∧ w'.cell? ⟨ze, 0, none⟩ = some (.string zk) ∧ w'.cell? ⟨ze, 1, none⟩ = some (.int .i64 zj) ∧ w'.cell? ⟨ze, 2, none⟩ = some (.bool true)) (ds := []) #[false, false, false, false, false, false, false, false, false, false] qk_ rfl rfl ⟨(blk_cell zd.out 0).trans rfl, (blk_cell zd.out 1).trans rfl, (blk_cell za.out 0).trans rfl, (blk_cell za.out 1).trans rfl, (blk_cell za.out 2).trans rfl⟩ (fun zm => ?_); refine with_tabW grommetlaw16_PathOne.tab3 grommetlaw16_PathOne.bits3 (fun HT_ HW_ => ?_)
     generalize wc.drew = w119 at zd za HB zm ⊢
     refine take_ (i := 0) (N := some 27) (v := ?_) (a' := ?_) #[true, false, false, false, false, false, false, false, false, false] rfl rfl (take_ofW HT_.out HW_.out qk_) (fun _ _ _ h => h) (Or.inl ⟨by rfl, ?_⟩) zm ?_ ?_
     rotate_left
     exact qzz43_
     rotate_left
     exact qzz44_
     refine take_ (i := 1) (N := some 28) (v := ?_) (a' := ?_) #[true, true, false, false, false, false, false, false, false, false] rfl rfl (take_ofW HT_.out HW_.out qk_) (fun _ _ _ h => h) (Or.inl ⟨by rfl, ?_⟩) zm ?_ ?_
     rotate_left
     exact qzz43_
     rotate_left
     exact qzz44_
     refine one_ (i := 2) (N := some 29) #[true, true, true, false, false, false, false, false, false, false] rfl rfl (one_of HT_.out qk_) (by decide) (fun K hK => ?_)
     refine Kd.R_lit_step k58 _ 58 ?hg (N := 29) ?hd (xs := ([(⟨zk, zj, true⟩ : S58)] : List (S58))) (inner := [.string zk, .int .i64 zj, .bool true]) (ok := fun _ => True) (okp := fun _ => True) ?hr ?hp (fun _ hk => hk) trivial (Below.refl _ _) (Nat.le_refl _) (by simp) ?_; (case hd => rfl); (case hg => rfl); (case hr => first | (go_simp; done) | (go_simp; rfl)); (case hp => exact (Reps.c3 (show Kd.M k58 _ _ _ (⟨zk, zj, true⟩ : S58) [.string zk, .int .i64 zj, .bool true] from (k58_mkM _ _ _ (⟨zk, zj, true⟩ : S58) )) (Reps.none _ _)))
     intro v107 w120 ho121 hb hg_ hnew_
     clear hg_ hnew_
     (first | rw [← Ny106.out] at ho121 | (simp only [Int.reduceToNat] at ho121; rw [← Ny106.out] at ho121))
     have n0_ := qA_ (Kd.R_lower (Kd.R_newB ho121 (g := ze) (o := .cells #[.string zk, .int .i64 zj, .bool true] 58 (0, 0)) (qzz1_)) (below_size (qzz0_)))
     have n1_ := qA_ (blk_below (g := zg) (o := .cells #[.slice zw zb.length zp, .int .i64 zc] 24 (0, 0)) (qzz3_) hb)
     have n2_ := qA_ (blk_below (g := ze) (o := .cells #[.string zk, .int .i64 zj, .bool true] 58 (0, 0)) (qzz1_) hb)
     have n3_ := qA_ (below_step (qzz0_) hb)
     have zr := n0_
     replace zd := n1_
     replace za := n2_
     replace HB := n3_
     clear n0_ n1_ n2_ n3_
     clear hb ho121
     obtain ⟨Ao122, co122, eo122⟩ := Kd.R_slice zr.out
     (first | subst eo122 | (injection eo122 with f1_ f2_ f3_; have f4_ := f1_.symm; have f5_ := f3_.symm; clear f1_ f2_ f3_; subst f4_; subst f5_))
     refine hK.out _ _ ⟨(blk_cell zd.out 0).trans rfl, (blk_cell zd.out 1).trans rfl, (blk_cell za.out 0).trans rfl, (blk_cell za.out 1).trans rfl, (blk_cell za.out 2).trans rfl⟩ (fun zm => ?_)
     clear hK K
     refine norm_ (a' := ?_) ?_ ?_
     rotate_left
     ·
      show Act.put _ (some 29) _ = _
      simp only [Act.put, List.setIfInBounds_toArray, List.set_cons_zero, List.set_cons_succ, i64_w, i32_w]
      rfl
     refine one_ (i := 3) (N := some 30) #[true, true, true, true, false, false, false, false, false, false] rfl rfl (one_of HT_.out qk_) (by decide) (fun K hK => ?_)
     refine goes_ Tryz.func26 qk_ rfl #[.slice Ao122 y106.length co122] (by rfl) rfl rfl (qzz10_) ?_
     with_reducible refine (grommetlaw16_theirs.calls kj2 _ _ y106 t109 _ ?side1 ?side2 (hG.below (qzz2_)) A27.out).mono ?_
     (case side1 => exact qzz39_)
     (case side2 => exact qzz40_)
     rintro e w123 ⟨v110, rfl, ho0, hb⟩
     refine ⟨_, rfl, ?_⟩
     have n0_ := qA_ (Kd.R_below (qzz9_) hb)
     have n1_ := qA_ (Kd.R_lower ho0 (below_size (qzz0_)))
     have n2_ := qA_ (blk_below (g := zg) (o := .cells #[.slice zw zb.length zp, .int .i64 zc] 24 (0, 0)) (qzz3_) hb)
     have n3_ := qA_ (blk_below (g := ze) (o := .cells #[.string zk, .int .i64 zj, .bool true] 58 (0, 0)) (qzz1_) hb)
     have n4_ := qA_ (below_step (qzz0_) hb)
     replace zr := n0_
     have ya := n1_
     replace zd := n2_
     replace za := n3_
     replace HB := n4_
     clear n0_ n1_ n2_ n3_ n4_
     (try clear hb)
     (try clear hb2)
     (try clear hk)
     (try clear hi)
     (try clear ho0)
     obtain ⟨Ao124, co124, eo124⟩ := Kd.R_slice ya.out
     (first | subst eo124 | (injection eo124 with f1_ f2_ f3_; have f4_ := f1_.symm; have f5_ := f3_.symm; clear f1_ f2_ f3_; subst f4_; subst f5_))
     refine hK.out _ _ ⟨(blk_cell zd.out 0).trans rfl, (blk_cell zd.out 1).trans rfl, (blk_cell za.out 0).trans rfl, (blk_cell za.out 1).trans rfl, (blk_cell za.out 2).trans rfl⟩ (fun zm => ?_)
     clear hK K
     refine norm_ (a' := ?_) ?_ ?_
     rotate_left
     ·
      show Act.put _ (some 30) _ = _
      simp only [Act.put, List.setIfInBounds_toArray, List.set_cons_zero, List.set_cons_succ, i64_w, i32_w]
      rfl
     refine one_ (i := 4) (N := some 31) #[true, true, true, true, true, false, false, false, false, false] rfl rfl (one_of HT_.out qk_) (by decide) (fun K hK => ?_)
     refine goes_ Tryz.func25 qk_ rfl #[.agg #[.slice zw zb.length zp, .int .i64 zc], .slice Ao124 t109.length co124] (by rfl) rfl rfl (qzz10_) ?_
     with_reducible refine (path_Get.calls kj2 _ _ zb zc _ _ t109 t112 t113 _ ?side1 ?side2 ?side3 ?side4 (hG.below (qzz2_)) A28.out).mono ?_
     (case side1 => exact qzz38_)
     (case side2 => exact yp.out)
     (case side3 => exact qzz41_)
     (case side4 => exact qzz42_)
     rintro e w125 ⟨rfl, hb⟩
     refine ⟨_, rfl, ?_⟩
     have n0_ := qA_ (Kd.R_below (qzz9_) hb)
     have n1_ := qA_ (Kd.R_below (qzz12_) hb)
     have n2_ := qA_ (blk_below (g := zg) (o := .cells #[.slice zw zb.length zp, .int .i64 zc] 24 (0, 0)) (qzz3_) hb)
     have n3_ := qA_ (blk_below (g := ze) (o := .cells #[.string zk, .int .i64 zj, .bool true] 58 (0, 0)) (qzz1_) hb)
     have n4_ := qA_ (below_step (qzz0_) hb)
     replace zr := n0_
     replace ya := n1_
     replace zd := n2_
     replace za := n3_
     replace HB := n4_
     clear n0_ n1_ n2_ n3_ n4_
     (try clear hb)
     (try clear hb2)
     (try clear hk)
     (try clear hi)
     refine hK.out _ _ ⟨(blk_cell zd.out 0).trans rfl, (blk_cell zd.out 1).trans rfl, (blk_cell za.out 0).trans rfl, (blk_cell za.out 1).trans rfl, (blk_cell za.out 2).trans rfl⟩ (fun zm => ?_)
     clear hK K
     refine norm_ (a' := ?_) ?_ ?_
     rotate_left
     ·
      show Act.put _ (some 31) _ = _
      simp only [Act.put, List.setIfInBounds_toArray, List.set_cons_zero, List.set_cons_succ, i64_w, i32_w]
      rfl
     refine pure_ (i := 5) (N := some 26) (v := ?_) (a' := ?_) #[true, true, true, true, true, true, false, false, false, false] rfl rfl (any_of HT_.out qk_) (fun _ _ _ h => h) (Or.inl ⟨by rfl, ?_⟩) ?_ ?_
     rotate_left
     exact qzz45_
     rotate_left
     exact qzz44_
     refine pure_ (i := 6) (N := some 32) (v := ?_) (a' := ?_) #[true, true, true, true, true, true, true, false, false, false] rfl rfl (any_of HT_.out qk_) (fun _ _ _ h => h) (Or.inl ⟨by rfl, ?_⟩) ?_ ?_
     rotate_left
     exact qzz45_
     rotate_left
     exact qzz44_
     refine pure_ (i := 7) (N := some 33) (v := ?_) (a' := ?_) #[true, true, true, true, true, true, true, true, false, false] rfl rfl (any_of HT_.out qk_) (fun _ _ _ h => h) (Or.inl ⟨by rfl, ?_⟩) ?_ ?_
     rotate_left
     exact qzz45_
     rotate_left
     exact qzz44_
     refine pure_ (i := 8) (N := some 5) (v := ?_) (a' := ?_) #[true, true, true, true, true, true, true, true, true, false] rfl rfl (any_of HT_.out qk_) (fun _ _ _ h => h) (Or.inl ⟨by rfl, ?_⟩) ?_ ?_
     rotate_left
     exact qzz45_
     rotate_left
     exact qzz44_
     refine pure_ (i := 9) (N := some 6) (v := ?_) (a' := ?_) #[true, true, true, true, true, true, true, true, true, true] rfl rfl (any_of HT_.out qk_) (fun _ _ _ h => h) (Or.inl ⟨by rfl, ?_⟩) ?_ ?_
     rotate_left
     exact qzz45_
     rotate_left
     exact qzz44_
     refine done_ (done_of HT_.out qk_) ?_
     have hnb126 := yj.out
     have hnc126 := yk.out
     have hcz127_0 : w125.cell? ⟨zg, 0, none⟩ = some (.slice zw zb.length zp) := (blk_cell zd.out 0).trans rfl
     have hcz127_1 : w125.cell? ⟨zg, 1, none⟩ = some (.int .i64 zc) := (blk_cell zd.out 1).trans rfl
     have hfz127_0 := blk_frozen zd.out 0
     have hfz127_1 := blk_frozen zd.out 1
     have p123 : 0 ≤ (zc : Int) := of_decide_eq_true (qzz13_)
     have q123 : zc < (zb.length : Int) := of_decide_eq_true (qzz13_)
     obtain ⟨zq, ym, zu, e123, hx123_0, hx123_1, hx123_2, hl123_2, hi123_2⟩ := at_T45 ys.out zc p123 q123
     have KX123_2 := qA_ hx123_2
     cases e123
     replace hx123_0 := (HB.out.cell (World.block_lt_of_cell? w _ hx123_0)).trans hx123_0
     replace hx123_1 := (HB.out.cell (World.block_lt_of_cell? w _ hx123_1)).trans hx123_1
     replace hx123_2 := (HB.out.cell (World.block_lt_of_cell? w _ hx123_2)).trans hx123_2
     have yn := qA_ hi123_2
     have yt := qA_ hl123_2
     clear hi123_2 hl123_2
     replace p123 := eq_true p123
     replace q123 := eq_true q123
     try go_wp2_with (first | ((with_reducible refine gate_dst (N := 9) rfl ?_); (try (refine gate_guard (by rfl) ?_; dsimp only)); refine box_event ?hg (N := 9) ?hd (cs := #[.int .i64 0, .string (⟨#[]⟩ : ByteArray), .slice none 0 0]) (t := 45) ?hr ?_; (case hd => rfl); (case hg => rfl); (case hr => first | (go_simp; done) | (go_simp; rfl)); intro zh hg w128 hbox hb; have n0_ := qA_ (Kd.R_below (qzz9_) hb); have n1_ := qA_ (Kd.R_below (qzz12_) hb); have n2_ := qA_ (blk_below (g := zg) (o := .cells #[.slice (some zq) zb.length zp, .int .i64 zc] 24 (0, 0)) (qzz3_) hb); have n3_ := qA_ (blk_below (g := ze) (o := .cells #[.string zk, .int .i64 zj, .bool true] 58 (0, 0)) (qzz1_) hb); have n4_ := qA_ (below_step (qzz0_) hb); have n5_ := qA_ (hbox); have n6_ := qA_ ((by rw [hg]; exact (below_size (qzz0_)) : w.heap.size ≤ zh)); have n7_ := qA_ ((by rw [hg]; exact (below_size (qzz0_)) : w.heap.size ≤ zh)); have n8_ := qA_ ((by rw [hg]; exact Nat.ne_of_lt (blk_lt (g := zg) (o := .cells #[.slice (some zq) zb.length zp, .int .i64 zc] 24 (0, 0)) (qzz3_)) : zg ≠ zh)); have n9_ := qA_ ((by rw [hg]; exact Nat.ne_of_gt (blk_lt (g := zg) (o := .cells #[.slice (some zq) zb.length zp, .int .i64 zc] 24 (0, 0)) (qzz3_)) : zh ≠ zg)); have n10_ := qA_ ((by rw [hg]; exact Nat.ne_of_lt (blk_lt (g := ze) (o := .cells #[.string zk, .int .i64 zj, .bool true] 58 (0, 0)) (qzz1_)) : ze ≠ zh)); have n11_ := qA_ ((by rw [hg]; exact Nat.ne_of_gt (blk_lt (g := ze) (o := .cells #[.string zk, .int .i64 zj, .bool true] 58 (0, 0)) (qzz1_)) : zh ≠ ze)); replace zr := n0_; replace ya := n1_; replace zd := n2_; replace za := n3_; replace HB := n4_; have zi := n5_; have yv := n6_; have yy := n7_; have zt := n8_; have zy := n9_; have zs := n10_; have zz := n11_; clear n0_ n1_ n2_ n3_ n4_ n5_ n6_ n7_ n8_ n9_ n10_ n11_; clear hb hbox hg; have hnb129 := zy.out; have hnc129 := zt.out; have hnb130 := zz.out; have hnc130 := zs.out; have hcz131_0 : w128.cell? ⟨zh, 0, none⟩ = some (.int .i64 0) := (blk_cell zi.out 0).trans rfl; have hcz131_1 : w128.cell? ⟨zh, 1, none⟩ = some (.string (⟨#[]⟩ : ByteArray)) := (blk_cell zi.out 1).trans rfl; have hcz131_2 : w128.cell? ⟨zh, 2, none⟩ = some (.slice none 0 0) := (blk_cell zi.out 2).trans rfl; have hfz131_0 := blk_frozen zi.out 0; have hfz131_1 := blk_frozen zi.out 1; have hfz131_2 := blk_frozen zi.out 2; have hcz132_0 : w128.cell? ⟨ze, 0, none⟩ = some (.string zk) := (blk_cell za.out 0).trans rfl; have hcz132_1 : w128.cell? ⟨ze, 1, none⟩ = some (.int .i64 zj) := (blk_cell za.out 1).trans rfl; have hcz132_2 : w128.cell? ⟨ze, 2, none⟩ = some (.bool true) := (blk_cell za.out 2).trans rfl; have hfz132_0 := blk_frozen za.out 0; have hfz132_1 := blk_frozen za.out 1; have hfz132_2 := blk_frozen za.out 2) | (go_at_call 24; (with_reducible refine (grommetlaw16_alive.calls  t128 _ (hG.below (qzz2_)) A118.out).mono ?_); rintro e w133 ⟨rfl, hb⟩; have n0_ := qA_ (Kd.R_below (qzz23_) hb); have n1_ := qA_ (Kd.R_below (qzz22_) hb); have n2_ := qA_ (blk_below (g := zg) (o := .cells #[.slice (some zq) zb.length zp, .int .i64 zc] 24 (0, 0)) (qzz15_) hb); have n3_ := qA_ (blk_below (g := ze) (o := .cells #[.string zk, .int .i64 zj, .bool true] 58 (0, 0)) (qzz14_) hb); have n4_ := qA_ (blk_below (g := zh) (o := .cells #[.int .i64 ((rd_T45 zb zc).f0), .string ((rd_T45 zb zc).f1), .slice ym ((rd_T45 zb zc).f2).length zu] 45 (0, 0)) (qzz11_) hb); have n5_ := qA_ (below_step (qzz8_) hb); replace zr := n0_; replace ya := n1_; replace zd := n2_; replace za := n3_; replace zi := n4_; replace HB := n5_; clear n0_ n1_ n2_ n3_ n4_ n5_; (try clear hb); (try clear hk)))
     go_ret
     exact ⟨qzz18_, qzz8_⟩
    rw [if_pos c69] at H
    have c69b0 : decide (zj < (((rd_T45 zb zc).f2).length : Int)) = true := decide_eq_true c69
    clear c69
    by_cases c70 : t113 = 0
    rotate_left
    ·
     rw [if_neg c70] at H
     have c70b0 : (t113 == 0) = false := beq_eq_false_iff_ne.mpr c70
     have c70b1 : (t113 != 0) = true := bne_iff_ne.mpr c70
     obtain rfl := Option.some.inj H
     try go_wp2
     have n0_ := qA_ (blk_drew zd.out)
     have n1_ := qA_ (blk_drew za.out)
     have n2_ := qA_ (below_drew1 HB.out)
     replace zd := n0_
     replace za := n1_
     replace HB := n2_
     clear n0_ n1_ n2_
     refine start_ (n := 10) (S := fun w' => w'.cell? ⟨zg, 0, none⟩ = some (.slice zw zb.length zp) ∧ w'.cell? ⟨zg, 1, none⟩ = some (.int .i64 zc) ∧ w'.cell? ⟨ze, 0, none⟩ = some (.string zk) ∧ w'.cell? ⟨ze, 1, none⟩ = some (.int .i64 zj) ∧ w'.cell? ⟨ze, 2, none⟩ = some (.bool true)) (ds := []) #[false, false, false, false, false, false, false, false, false, false] qk_ rfl rfl ⟨(blk_cell zd.out 0).trans rfl, (blk_cell zd.out 1).trans rfl, (blk_cell za.out 0).trans rfl, (blk_cell za.out 1).trans rfl, (blk_cell za.out 2).trans rfl⟩ (fun zm => ?_); refine with_tabW grommetlaw16_PathOne.tab3 grommetlaw16_PathOne.bits3 (fun HT_ HW_ => ?_)
     generalize wc.drew = w103 at zd za HB zm ⊢
     refine take_ (i := 0) (N := some 27) (v := ?_) (a' := ?_) #[true, false, false, false, false, false, false, false, false, false] rfl rfl (take_ofW HT_.out HW_.out qk_) (fun _ _ _ h => h) (Or.inl ⟨by rfl, ?_⟩) zm ?_ ?_
     rotate_left
     exact qzz43_
     rotate_left
     exact qzz44_
     refine take_ (i := 1) (N := some 28) (v := ?_) (a' := ?_) #[true, true, false, false, false, false, false, false, false, false] rfl rfl (take_ofW HT_.out HW_.out qk_) (fun _ _ _ h => h) (Or.inl ⟨by rfl, ?_⟩) zm ?_ ?_
     rotate_left
     exact qzz43_
     rotate_left
     exact qzz44_
     refine one_ (i := 2) (N := some 29) #[true, true, true, false, false, false, false, false, false, false] rfl rfl (one_of HT_.out qk_) (by decide) (fun K hK => ?_)
     refine Kd.R_lit_step k58 _ 58 ?hg (N := 29) ?hd (xs := ([(⟨zk, zj, true⟩ : S58)] : List (S58))) (inner := [.string zk, .int .i64 zj, .bool true]) (ok := fun _ => True) (okp := fun _ => True) ?hr ?hp (fun _ hk => hk) trivial (Below.refl _ _) (Nat.le_refl _) (by simp) ?_; (case hd => rfl); (case hg => rfl); (case hr => first | (go_simp; done) | (go_simp; rfl)); (case hp => exact (Reps.c3 (show Kd.M k58 _ _ _ (⟨zk, zj, true⟩ : S58) [.string zk, .int .i64 zj, .bool true] from (k58_mkM _ _ _ (⟨zk, zj, true⟩ : S58) )) (Reps.none _ _)))
     intro v107 w104 ho105 hb hg_ hnew_
     clear hg_ hnew_
     (first | rw [← Ny106.out] at ho105 | (simp only [Int.reduceToNat] at ho105; rw [← Ny106.out] at ho105))
     have n0_ := qA_ (Kd.R_lower (Kd.R_newB ho105 (g := ze) (o := .cells #[.string zk, .int .i64 zj, .bool true] 58 (0, 0)) (qzz1_)) (below_size (qzz0_)))
     have n1_ := qA_ (blk_below (g := zg) (o := .cells #[.slice zw zb.length zp, .int .i64 zc] 24 (0, 0)) (qzz3_) hb)
     have n2_ := qA_ (blk_below (g := ze) (o := .cells #[.string zk, .int .i64 zj, .bool true] 58 (0, 0)) (qzz1_) hb)
     have n3_ := qA_ (below_step (qzz0_) hb)
     have zr := n0_
     replace zd := n1_
     replace za := n2_
     replace HB := n3_
     clear n0_ n1_ n2_ n3_
     clear hb ho105
     obtain ⟨Ao106, co106, eo106⟩ := Kd.R_slice zr.out
     (first | subst eo106 | (injection eo106 with f1_ f2_ f3_; have f4_ := f1_.symm; have f5_ := f3_.symm; clear f1_ f2_ f3_; subst f4_; subst f5_))
     refine hK.out _ _ ⟨(blk_cell zd.out 0).trans rfl, (blk_cell zd.out 1).trans rfl, (blk_cell za.out 0).trans rfl, (blk_cell za.out 1).trans rfl, (blk_cell za.out 2).trans rfl⟩ (fun zm => ?_)
     clear hK K
     refine norm_ (a' := ?_) ?_ ?_
     rotate_left
     ·
      show Act.put _ (some 29) _ = _
      simp only [Act.put, List.setIfInBounds_toArray, List.set_cons_zero, List.set_cons_succ, i64_w, i32_w]
      rfl
     refine one_ (i := 3) (N := some 30) #[true, true, true, true, false, false, false, false, false, false] rfl rfl (one_of HT_.out qk_) (by decide) (fun K hK => ?_)
     refine goes_ Tryz.func26 qk_ rfl #[.slice Ao106 y106.length co106] (by rfl) rfl rfl (qzz10_) ?_
     with_reducible refine (grommetlaw16_theirs.calls kj2 _ _ y106 t109 _ ?side1 ?side2 (hG.below (qzz2_)) A27.out).mono ?_
     (case side1 => exact qzz39_)
     (case side2 => exact qzz40_)
     rintro e w107 ⟨v110, rfl, ho0, hb⟩
     refine ⟨_, rfl, ?_⟩
     have n0_ := qA_ (Kd.R_below (qzz9_) hb)
     have n1_ := qA_ (Kd.R_lower ho0 (below_size (qzz0_)))
     have n2_ := qA_ (blk_below (g := zg) (o := .cells #[.slice zw zb.length zp, .int .i64 zc] 24 (0, 0)) (qzz3_) hb)
     have n3_ := qA_ (blk_below (g := ze) (o := .cells #[.string zk, .int .i64 zj, .bool true] 58 (0, 0)) (qzz1_) hb)
     have n4_ := qA_ (below_step (qzz0_) hb)
     replace zr := n0_
     have ya := n1_
     replace zd := n2_
     replace za := n3_
     replace HB := n4_
     clear n0_ n1_ n2_ n3_ n4_
     (try clear hb)
     (try clear hb2)
     (try clear hk)
     (try clear hi)
     (try clear ho0)
     obtain ⟨Ao108, co108, eo108⟩ := Kd.R_slice ya.out
     (first | subst eo108 | (injection eo108 with f1_ f2_ f3_; have f4_ := f1_.symm; have f5_ := f3_.symm; clear f1_ f2_ f3_; subst f4_; subst f5_))
     refine hK.out _ _ ⟨(blk_cell zd.out 0).trans rfl, (blk_cell zd.out 1).trans rfl, (blk_cell za.out 0).trans rfl, (blk_cell za.out 1).trans rfl, (blk_cell za.out 2).trans rfl⟩ (fun zm => ?_)
     clear hK K
     refine norm_ (a' := ?_) ?_ ?_
     rotate_left
     ·
      show Act.put _ (some 30) _ = _
      simp only [Act.put, List.setIfInBounds_toArray, List.set_cons_zero, List.set_cons_succ, i64_w, i32_w]
      rfl
     refine one_ (i := 4) (N := some 31) #[true, true, true, true, true, false, false, false, false, false] rfl rfl (one_of HT_.out qk_) (by decide) (fun K hK => ?_)
     refine goes_ Tryz.func25 qk_ rfl #[.agg #[.slice zw zb.length zp, .int .i64 zc], .slice Ao108 t109.length co108] (by rfl) rfl rfl (qzz10_) ?_
     with_reducible refine (path_Get.calls kj2 _ _ zb zc _ _ t109 t112 t113 _ ?side1 ?side2 ?side3 ?side4 (hG.below (qzz2_)) A28.out).mono ?_
     (case side1 => exact qzz38_)
     (case side2 => exact yp.out)
     (case side3 => exact qzz41_)
     (case side4 => exact qzz42_)
     rintro e w109 ⟨rfl, hb⟩
     refine ⟨_, rfl, ?_⟩
     have n0_ := qA_ (Kd.R_below (qzz9_) hb)
     have n1_ := qA_ (Kd.R_below (qzz12_) hb)
     have n2_ := qA_ (blk_below (g := zg) (o := .cells #[.slice zw zb.length zp, .int .i64 zc] 24 (0, 0)) (qzz3_) hb)
     have n3_ := qA_ (blk_below (g := ze) (o := .cells #[.string zk, .int .i64 zj, .bool true] 58 (0, 0)) (qzz1_) hb)
     have n4_ := qA_ (below_step (qzz0_) hb)
     replace zr := n0_
     replace ya := n1_
     replace zd := n2_
     replace za := n3_
     replace HB := n4_
     clear n0_ n1_ n2_ n3_ n4_
     (try clear hb)
     (try clear hb2)
     (try clear hk)
     (try clear hi)
     refine hK.out _ _ ⟨(blk_cell zd.out 0).trans rfl, (blk_cell zd.out 1).trans rfl, (blk_cell za.out 0).trans rfl, (blk_cell za.out 1).trans rfl, (blk_cell za.out 2).trans rfl⟩ (fun zm => ?_)
     clear hK K
     refine norm_ (a' := ?_) ?_ ?_
     rotate_left
     ·
      show Act.put _ (some 31) _ = _
      simp only [Act.put, List.setIfInBounds_toArray, List.set_cons_zero, List.set_cons_succ, i64_w, i32_w]
      rfl
     refine pure_ (i := 5) (N := some 26) (v := ?_) (a' := ?_) #[true, true, true, true, true, true, false, false, false, false] rfl rfl (any_of HT_.out qk_) (fun _ _ _ h => h) (Or.inl ⟨by rfl, ?_⟩) ?_ ?_
     rotate_left
     exact qzz45_
     rotate_left
     exact qzz44_
     refine pure_ (i := 6) (N := some 32) (v := ?_) (a' := ?_) #[true, true, true, true, true, true, true, false, false, false] rfl rfl (any_of HT_.out qk_) (fun _ _ _ h => h) (Or.inl ⟨by rfl, ?_⟩) ?_ ?_
     rotate_left
     exact qzz45_
     rotate_left
     exact qzz44_
     refine pure_ (i := 7) (N := some 33) (v := ?_) (a' := ?_) #[true, true, true, true, true, true, true, true, false, false] rfl rfl (any_of HT_.out qk_) (fun _ _ _ h => h) (Or.inl ⟨by rfl, ?_⟩) ?_ ?_
     rotate_left
     exact qzz45_
     rotate_left
     exact qzz44_
     refine pure_ (i := 8) (N := some 5) (v := ?_) (a' := ?_) #[true, true, true, true, true, true, true, true, true, false] rfl rfl (any_of HT_.out qk_) (fun _ _ _ h => h) (Or.inl ⟨by rfl, ?_⟩) ?_ ?_
     rotate_left
     exact qzz45_
     rotate_left
     exact qzz44_
     refine pure_ (i := 9) (N := some 6) (v := ?_) (a' := ?_) #[true, true, true, true, true, true, true, true, true, true] rfl rfl (any_of HT_.out qk_) (fun _ _ _ h => h) (Or.inl ⟨by rfl, ?_⟩) ?_ ?_
     rotate_left
     exact qzz45_
     rotate_left
     exact qzz44_
     refine done_ (done_of HT_.out qk_) ?_
     have hnb110 := yj.out
     have hnc110 := yk.out
     have hcz111_0 : w109.cell? ⟨zg, 0, none⟩ = some (.slice zw zb.length zp) := (blk_cell zd.out 0).trans rfl
     have hcz111_1 : w109.cell? ⟨zg, 1, none⟩ = some (.int .i64 zc) := (blk_cell zd.out 1).trans rfl
     have hfz111_0 := blk_frozen zd.out 0
     have hfz111_1 := blk_frozen zd.out 1
     have p123 : 0 ≤ (zc : Int) := of_decide_eq_true (qzz13_)
     have q123 : zc < (zb.length : Int) := of_decide_eq_true (qzz13_)
     obtain ⟨zq, ym, zu, e123, hx123_0, hx123_1, hx123_2, hl123_2, hi123_2⟩ := at_T45 ys.out zc p123 q123
     have KX123_2 := qA_ hx123_2
     cases e123
     replace hx123_0 := (HB.out.cell (World.block_lt_of_cell? w _ hx123_0)).trans hx123_0
     replace hx123_1 := (HB.out.cell (World.block_lt_of_cell? w _ hx123_1)).trans hx123_1
     replace hx123_2 := (HB.out.cell (World.block_lt_of_cell? w _ hx123_2)).trans hx123_2
     have yn := qA_ hi123_2
     have yt := qA_ hl123_2
     clear hi123_2 hl123_2
     replace p123 := eq_true p123
     replace q123 := eq_true q123
     try go_wp2_with (first | ((with_reducible refine gate_dst (N := 9) rfl ?_); (try (refine gate_guard (by rfl) ?_; dsimp only)); refine box_event ?hg (N := 9) ?hd (cs := #[.int .i64 0, .string (⟨#[]⟩ : ByteArray), .slice none 0 0]) (t := 45) ?hr ?_; (case hd => rfl); (case hg => rfl); (case hr => first | (go_simp; done) | (go_simp; rfl)); intro zh hg w112 hbox hb; have n0_ := qA_ (Kd.R_below (qzz9_) hb); have n1_ := qA_ (Kd.R_below (qzz12_) hb); have n2_ := qA_ (blk_below (g := zg) (o := .cells #[.slice (some zq) zb.length zp, .int .i64 zc] 24 (0, 0)) (qzz3_) hb); have n3_ := qA_ (blk_below (g := ze) (o := .cells #[.string zk, .int .i64 zj, .bool true] 58 (0, 0)) (qzz1_) hb); have n4_ := qA_ (below_step (qzz0_) hb); have n5_ := qA_ (hbox); have n6_ := qA_ ((by rw [hg]; exact (below_size (qzz0_)) : w.heap.size ≤ zh)); have n7_ := qA_ ((by rw [hg]; exact (below_size (qzz0_)) : w.heap.size ≤ zh)); have n8_ := qA_ ((by rw [hg]; exact Nat.ne_of_lt (blk_lt (g := zg) (o := .cells #[.slice (some zq) zb.length zp, .int .i64 zc] 24 (0, 0)) (qzz3_)) : zg ≠ zh)); have n9_ := qA_ ((by rw [hg]; exact Nat.ne_of_gt (blk_lt (g := zg) (o := .cells #[.slice (some zq) zb.length zp, .int .i64 zc] 24 (0, 0)) (qzz3_)) : zh ≠ zg)); have n10_ := qA_ ((by rw [hg]; exact Nat.ne_of_lt (blk_lt (g := ze) (o := .cells #[.string zk, .int .i64 zj, .bool true] 58 (0, 0)) (qzz1_)) : ze ≠ zh)); have n11_ := qA_ ((by rw [hg]; exact Nat.ne_of_gt (blk_lt (g := ze) (o := .cells #[.string zk, .int .i64 zj, .bool true] 58 (0, 0)) (qzz1_)) : zh ≠ ze)); replace zr := n0_; replace ya := n1_; replace zd := n2_; replace za := n3_; replace HB := n4_; have zi := n5_; have yv := n6_; have yy := n7_; have zt := n8_; have zy := n9_; have zs := n10_; have zz := n11_; clear n0_ n1_ n2_ n3_ n4_ n5_ n6_ n7_ n8_ n9_ n10_ n11_; clear hb hbox hg; have hnb113 := zy.out; have hnc113 := zt.out; have hnb114 := zz.out; have hnc114 := zs.out; have hcz115_0 : w112.cell? ⟨zh, 0, none⟩ = some (.int .i64 0) := (blk_cell zi.out 0).trans rfl; have hcz115_1 : w112.cell? ⟨zh, 1, none⟩ = some (.string (⟨#[]⟩ : ByteArray)) := (blk_cell zi.out 1).trans rfl; have hcz115_2 : w112.cell? ⟨zh, 2, none⟩ = some (.slice none 0 0) := (blk_cell zi.out 2).trans rfl; have hfz115_0 := blk_frozen zi.out 0; have hfz115_1 := blk_frozen zi.out 1; have hfz115_2 := blk_frozen zi.out 2; have hcz116_0 : w112.cell? ⟨ze, 0, none⟩ = some (.string zk) := (blk_cell za.out 0).trans rfl; have hcz116_1 : w112.cell? ⟨ze, 1, none⟩ = some (.int .i64 zj) := (blk_cell za.out 1).trans rfl; have hcz116_2 : w112.cell? ⟨ze, 2, none⟩ = some (.bool true) := (blk_cell za.out 2).trans rfl; have hfz116_0 := blk_frozen za.out 0; have hfz116_1 := blk_frozen za.out 1; have hfz116_2 := blk_frozen za.out 2))
     go_ret
     exact ⟨qzz18_, qzz8_⟩
    rw [if_pos c70] at H
    have c70b0 : (t113 == 0) = true := beq_iff_eq.mpr c70
    have c70b1 : (t113 != 0) = false := bne_eq_false_iff_eq.mpr c70
    clear c70
    by_cases c71 : 0 ≤ zj
    rotate_left
    ·
     rw [if_neg c71] at H
     exact absurd H (by simp)
    rw [if_pos c71] at H
    have c71b0 : decide (0 ≤ zj) = true := decide_eq_true c71
    clear c71
    by_cases c72 : t112 = (rd ((rd_T45 zb zc).f2) zj)
    rotate_left
    ·
     rw [if_neg c72] at H
     have c72b0 : (t112 == (rd ((rd_T45 zb zc).f2) zj)) = false := beq_eq_false_iff_ne.mpr c72
     have c72b1 : (t112 != (rd ((rd_T45 zb zc).f2) zj)) = true := bne_iff_ne.mpr c72
     obtain rfl := Option.some.inj H
     try go_wp2
     have n0_ := qA_ (blk_drew zd.out)
     have n1_ := qA_ (blk_drew za.out)
     have n2_ := qA_ (below_drew1 HB.out)
     replace zd := n0_
     replace za := n1_
     replace HB := n2_
     clear n0_ n1_ n2_
     refine start_ (n := 10) (S := fun w' => w'.cell? ⟨zg, 0, none⟩ = some (.slice zw zb.length zp) ∧ w'.cell? ⟨zg, 1, none⟩ = some (.int .i64 zc) ∧ w'.cell? ⟨ze, 0, none⟩ = some (.string zk) ∧ w'.cell? ⟨ze, 1, none⟩ = some (.int .i64 zj) ∧ w'.cell? ⟨ze, 2, none⟩ = some (.bool true)) (ds := []) #[false, false, false, false, false, false, false, false, false, false] qk_ rfl rfl ⟨(blk_cell zd.out 0).trans rfl, (blk_cell zd.out 1).trans rfl, (blk_cell za.out 0).trans rfl, (blk_cell za.out 1).trans rfl, (blk_cell za.out 2).trans rfl⟩ (fun zm => ?_); refine with_tabW grommetlaw16_PathOne.tab3 grommetlaw16_PathOne.bits3 (fun HT_ HW_ => ?_)
     generalize wc.drew = w89 at zd za HB zm ⊢
     refine take_ (i := 0) (N := some 27) (v := ?_) (a' := ?_) #[true, false, false, false, false, false, false, false, false, false] rfl rfl (take_ofW HT_.out HW_.out qk_) (fun _ _ _ h => h) (Or.inl ⟨by rfl, ?_⟩) zm ?_ ?_
     rotate_left
     exact qzz43_
     rotate_left
     exact qzz44_
     refine take_ (i := 1) (N := some 28) (v := ?_) (a' := ?_) #[true, true, false, false, false, false, false, false, false, false] rfl rfl (take_ofW HT_.out HW_.out qk_) (fun _ _ _ h => h) (Or.inl ⟨by rfl, ?_⟩) zm ?_ ?_
     rotate_left
     exact qzz43_
     rotate_left
     exact qzz44_
     refine one_ (i := 2) (N := some 29) #[true, true, true, false, false, false, false, false, false, false] rfl rfl (one_of HT_.out qk_) (by decide) (fun K hK => ?_)
     refine Kd.R_lit_step k58 _ 58 ?hg (N := 29) ?hd (xs := ([(⟨zk, zj, true⟩ : S58)] : List (S58))) (inner := [.string zk, .int .i64 zj, .bool true]) (ok := fun _ => True) (okp := fun _ => True) ?hr ?hp (fun _ hk => hk) trivial (Below.refl _ _) (Nat.le_refl _) (by simp) ?_; (case hd => rfl); (case hg => rfl); (case hr => first | (go_simp; done) | (go_simp; rfl)); (case hp => exact (Reps.c3 (show Kd.M k58 _ _ _ (⟨zk, zj, true⟩ : S58) [.string zk, .int .i64 zj, .bool true] from (k58_mkM _ _ _ (⟨zk, zj, true⟩ : S58) )) (Reps.none _ _)))
     intro v107 w90 ho91 hb hg_ hnew_
     clear hg_ hnew_
     (first | rw [← Ny106.out] at ho91 | (simp only [Int.reduceToNat] at ho91; rw [← Ny106.out] at ho91))
     have n0_ := qA_ (Kd.R_lower (Kd.R_newB ho91 (g := ze) (o := .cells #[.string zk, .int .i64 zj, .bool true] 58 (0, 0)) (qzz1_)) (below_size (qzz0_)))
     have n1_ := qA_ (blk_below (g := zg) (o := .cells #[.slice zw zb.length zp, .int .i64 zc] 24 (0, 0)) (qzz3_) hb)
     have n2_ := qA_ (blk_below (g := ze) (o := .cells #[.string zk, .int .i64 zj, .bool true] 58 (0, 0)) (qzz1_) hb)
     have n3_ := qA_ (below_step (qzz0_) hb)
     have zr := n0_
     replace zd := n1_
     replace za := n2_
     replace HB := n3_
     clear n0_ n1_ n2_ n3_
     clear hb ho91
     obtain ⟨Ao92, co92, eo92⟩ := Kd.R_slice zr.out
     (first | subst eo92 | (injection eo92 with f1_ f2_ f3_; have f4_ := f1_.symm; have f5_ := f3_.symm; clear f1_ f2_ f3_; subst f4_; subst f5_))
     refine hK.out _ _ ⟨(blk_cell zd.out 0).trans rfl, (blk_cell zd.out 1).trans rfl, (blk_cell za.out 0).trans rfl, (blk_cell za.out 1).trans rfl, (blk_cell za.out 2).trans rfl⟩ (fun zm => ?_)
     clear hK K
     refine norm_ (a' := ?_) ?_ ?_
     rotate_left
     ·
      show Act.put _ (some 29) _ = _
      simp only [Act.put, List.setIfInBounds_toArray, List.set_cons_zero, List.set_cons_succ, i64_w, i32_w]
      rfl
     refine one_ (i := 3) (N := some 30) #[true, true, true, true, false, false, false, false, false, false] rfl rfl (one_of HT_.out qk_) (by decide) (fun K hK => ?_)
     refine goes_ Tryz.func26 qk_ rfl #[.slice Ao92 y106.length co92] (by rfl) rfl rfl (qzz10_) ?_
     with_reducible refine (grommetlaw16_theirs.calls kj2 _ _ y106 t109 _ ?side1 ?side2 (hG.below (qzz2_)) A27.out).mono ?_
     (case side1 => exact qzz39_)
     (case side2 => exact qzz40_)
     rintro e w93 ⟨v110, rfl, ho0, hb⟩
     refine ⟨_, rfl, ?_⟩
     have n0_ := qA_ (Kd.R_below (qzz9_) hb)
     have n1_ := qA_ (Kd.R_lower ho0 (below_size (qzz0_)))
     have n2_ := qA_ (blk_below (g := zg) (o := .cells #[.slice zw zb.length zp, .int .i64 zc] 24 (0, 0)) (qzz3_) hb)
     have n3_ := qA_ (blk_below (g := ze) (o := .cells #[.string zk, .int .i64 zj, .bool true] 58 (0, 0)) (qzz1_) hb)
     have n4_ := qA_ (below_step (qzz0_) hb)
     replace zr := n0_
     have ya := n1_
     replace zd := n2_
     replace za := n3_
     replace HB := n4_
     clear n0_ n1_ n2_ n3_ n4_
     (try clear hb)
     (try clear hb2)
     (try clear hk)
     (try clear hi)
     (try clear ho0)
     obtain ⟨Ao94, co94, eo94⟩ := Kd.R_slice ya.out
     (first | subst eo94 | (injection eo94 with f1_ f2_ f3_; have f4_ := f1_.symm; have f5_ := f3_.symm; clear f1_ f2_ f3_; subst f4_; subst f5_))
     refine hK.out _ _ ⟨(blk_cell zd.out 0).trans rfl, (blk_cell zd.out 1).trans rfl, (blk_cell za.out 0).trans rfl, (blk_cell za.out 1).trans rfl, (blk_cell za.out 2).trans rfl⟩ (fun zm => ?_)
     clear hK K
     refine norm_ (a' := ?_) ?_ ?_
     rotate_left
     ·
      show Act.put _ (some 30) _ = _
      simp only [Act.put, List.setIfInBounds_toArray, List.set_cons_zero, List.set_cons_succ, i64_w, i32_w]
      rfl
     refine one_ (i := 4) (N := some 31) #[true, true, true, true, true, false, false, false, false, false] rfl rfl (one_of HT_.out qk_) (by decide) (fun K hK => ?_)
     refine goes_ Tryz.func25 qk_ rfl #[.agg #[.slice zw zb.length zp, .int .i64 zc], .slice Ao94 t109.length co94] (by rfl) rfl rfl (qzz10_) ?_
     with_reducible refine (path_Get.calls kj2 _ _ zb zc _ _ t109 t112 t113 _ ?side1 ?side2 ?side3 ?side4 (hG.below (qzz2_)) A28.out).mono ?_
     (case side1 => exact qzz38_)
     (case side2 => exact yp.out)
     (case side3 => exact qzz41_)
     (case side4 => exact qzz42_)
     rintro e w95 ⟨rfl, hb⟩
     refine ⟨_, rfl, ?_⟩
     have n0_ := qA_ (Kd.R_below (qzz9_) hb)
     have n1_ := qA_ (Kd.R_below (qzz12_) hb)
     have n2_ := qA_ (blk_below (g := zg) (o := .cells #[.slice zw zb.length zp, .int .i64 zc] 24 (0, 0)) (qzz3_) hb)
     have n3_ := qA_ (blk_below (g := ze) (o := .cells #[.string zk, .int .i64 zj, .bool true] 58 (0, 0)) (qzz1_) hb)
     have n4_ := qA_ (below_step (qzz0_) hb)
     replace zr := n0_
     replace ya := n1_
     replace zd := n2_
     replace za := n3_
     replace HB := n4_
     clear n0_ n1_ n2_ n3_ n4_
     (try clear hb)
     (try clear hb2)
     (try clear hk)
     (try clear hi)
     refine hK.out _ _ ⟨(blk_cell zd.out 0).trans rfl, (blk_cell zd.out 1).trans rfl, (blk_cell za.out 0).trans rfl, (blk_cell za.out 1).trans rfl, (blk_cell za.out 2).trans rfl⟩ (fun zm => ?_)
     clear hK K
     refine norm_ (a' := ?_) ?_ ?_
     rotate_left
     ·
      show Act.put _ (some 31) _ = _
      simp only [Act.put, List.setIfInBounds_toArray, List.set_cons_zero, List.set_cons_succ, i64_w, i32_w]
      rfl
     refine pure_ (i := 5) (N := some 26) (v := ?_) (a' := ?_) #[true, true, true, true, true, true, false, false, false, false] rfl rfl (any_of HT_.out qk_) (fun _ _ _ h => h) (Or.inl ⟨by rfl, ?_⟩) ?_ ?_
     rotate_left
     exact qzz45_
     rotate_left
     exact qzz44_
     refine pure_ (i := 6) (N := some 32) (v := ?_) (a' := ?_) #[true, true, true, true, true, true, true, false, false, false] rfl rfl (any_of HT_.out qk_) (fun _ _ _ h => h) (Or.inl ⟨by rfl, ?_⟩) ?_ ?_
     rotate_left
     exact qzz45_
     rotate_left
     exact qzz44_
     refine pure_ (i := 7) (N := some 33) (v := ?_) (a' := ?_) #[true, true, true, true, true, true, true, true, false, false] rfl rfl (any_of HT_.out qk_) (fun _ _ _ h => h) (Or.inl ⟨by rfl, ?_⟩) ?_ ?_
     rotate_left
     exact qzz45_
     rotate_left
     exact qzz44_
     refine pure_ (i := 8) (N := some 5) (v := ?_) (a' := ?_) #[true, true, true, true, true, true, true, true, true, false] rfl rfl (any_of HT_.out qk_) (fun _ _ _ h => h) (Or.inl ⟨by rfl, ?_⟩) ?_ ?_
     rotate_left
     exact qzz45_
     rotate_left
     exact qzz44_
     refine pure_ (i := 9) (N := some 6) (v := ?_) (a' := ?_) #[true, true, true, true, true, true, true, true, true, true] rfl rfl (any_of HT_.out qk_) (fun _ _ _ h => h) (Or.inl ⟨by rfl, ?_⟩) ?_ ?_
     rotate_left
     exact qzz45_
     rotate_left
     exact qzz44_
     refine done_ (done_of HT_.out qk_) ?_
     have hnb96 := yj.out
     have hnc96 := yk.out
     have hcz97_0 : w95.cell? ⟨zg, 0, none⟩ = some (.slice zw zb.length zp) := (blk_cell zd.out 0).trans rfl
     have hcz97_1 : w95.cell? ⟨zg, 1, none⟩ = some (.int .i64 zc) := (blk_cell zd.out 1).trans rfl
     have hfz97_0 := blk_frozen zd.out 0
     have hfz97_1 := blk_frozen zd.out 1
     have p123 : 0 ≤ (zc : Int) := of_decide_eq_true (qzz13_)
     have q123 : zc < (zb.length : Int) := of_decide_eq_true (qzz13_)
     obtain ⟨zq, ym, zu, e123, hx123_0, hx123_1, hx123_2, hl123_2, hi123_2⟩ := at_T45 ys.out zc p123 q123
     have KX123_2 := qA_ hx123_2
     cases e123
     replace hx123_0 := (HB.out.cell (World.block_lt_of_cell? w _ hx123_0)).trans hx123_0
     replace hx123_1 := (HB.out.cell (World.block_lt_of_cell? w _ hx123_1)).trans hx123_1
     replace hx123_2 := (HB.out.cell (World.block_lt_of_cell? w _ hx123_2)).trans hx123_2
     have yn := qA_ hi123_2
     have yt := qA_ hl123_2
     clear hi123_2 hl123_2
     replace p123 := eq_true p123
     replace q123 := eq_true q123
     try go_wp2_with (first | ((with_reducible refine gate_dst (N := 9) rfl ?_); (try (refine gate_guard (by rfl) ?_; dsimp only)); refine box_event ?hg (N := 9) ?hd (cs := #[.int .i64 0, .string (⟨#[]⟩ : ByteArray), .slice none 0 0]) (t := 45) ?hr ?_; (case hd => rfl); (case hg => rfl); (case hr => first | (go_simp; done) | (go_simp; rfl)); intro zh hg w98 hbox hb; have n0_ := qA_ (Kd.R_below (qzz9_) hb); have n1_ := qA_ (Kd.R_below (qzz12_) hb); have n2_ := qA_ (blk_below (g := zg) (o := .cells #[.slice (some zq) zb.length zp, .int .i64 zc] 24 (0, 0)) (qzz3_) hb); have n3_ := qA_ (blk_below (g := ze) (o := .cells #[.string zk, .int .i64 zj, .bool true] 58 (0, 0)) (qzz1_) hb); have n4_ := qA_ (below_step (qzz0_) hb); have n5_ := qA_ (hbox); have n6_ := qA_ ((by rw [hg]; exact (below_size (qzz0_)) : w.heap.size ≤ zh)); have n7_ := qA_ ((by rw [hg]; exact (below_size (qzz0_)) : w.heap.size ≤ zh)); have n8_ := qA_ ((by rw [hg]; exact Nat.ne_of_lt (blk_lt (g := zg) (o := .cells #[.slice (some zq) zb.length zp, .int .i64 zc] 24 (0, 0)) (qzz3_)) : zg ≠ zh)); have n9_ := qA_ ((by rw [hg]; exact Nat.ne_of_gt (blk_lt (g := zg) (o := .cells #[.slice (some zq) zb.length zp, .int .i64 zc] 24 (0, 0)) (qzz3_)) : zh ≠ zg)); have n10_ := qA_ ((by rw [hg]; exact Nat.ne_of_lt (blk_lt (g := ze) (o := .cells #[.string zk, .int .i64 zj, .bool true] 58 (0, 0)) (qzz1_)) : ze ≠ zh)); have n11_ := qA_ ((by rw [hg]; exact Nat.ne_of_gt (blk_lt (g := ze) (o := .cells #[.string zk, .int .i64 zj, .bool true] 58 (0, 0)) (qzz1_)) : zh ≠ ze)); replace zr := n0_; replace ya := n1_; replace zd := n2_; replace za := n3_; replace HB := n4_; have zi := n5_; have yv := n6_; have yy := n7_; have zt := n8_; have zy := n9_; have zs := n10_; have zz := n11_; clear n0_ n1_ n2_ n3_ n4_ n5_ n6_ n7_ n8_ n9_ n10_ n11_; clear hb hbox hg; have hnb99 := zy.out; have hnc99 := zt.out; have hnb100 := zz.out; have hnc100 := zs.out; have hcz101_0 : w98.cell? ⟨zh, 0, none⟩ = some (.int .i64 0) := (blk_cell zi.out 0).trans rfl; have hcz101_1 : w98.cell? ⟨zh, 1, none⟩ = some (.string (⟨#[]⟩ : ByteArray)) := (blk_cell zi.out 1).trans rfl; have hcz101_2 : w98.cell? ⟨zh, 2, none⟩ = some (.slice none 0 0) := (blk_cell zi.out 2).trans rfl; have hfz101_0 := blk_frozen zi.out 0; have hfz101_1 := blk_frozen zi.out 1; have hfz101_2 := blk_frozen zi.out 2; have hcz102_0 : w98.cell? ⟨ze, 0, none⟩ = some (.string zk) := (blk_cell za.out 0).trans rfl; have hcz102_1 : w98.cell? ⟨ze, 1, none⟩ = some (.int .i64 zj) := (blk_cell za.out 1).trans rfl; have hcz102_2 : w98.cell? ⟨ze, 2, none⟩ = some (.bool true) := (blk_cell za.out 2).trans rfl; have hfz102_0 := blk_frozen za.out 0; have hfz102_1 := blk_frozen za.out 1; have hfz102_2 := blk_frozen za.out 2; have p126 : 0 ≤ (zj : Int) := of_decide_eq_true (qzz13_); have q126 : zj < (((rd_T45 zb zc).f2).length : Int) := of_decide_eq_true (qzz13_); obtain ⟨yx, e126, hx126_0⟩ := Kd.at_int yn.out zj p126 q126; cases e126; have hn126_0 : yx.block ≠ zh := Nat.ne_of_lt (Nat.lt_of_lt_of_le (qzz25_) yv.out); have hn126_1 : yx.block ≠ zh := Nat.ne_of_lt (Nat.lt_of_lt_of_le (qzz25_) yv.out); have hn126_2 : yx.block ≠ zh := Nat.ne_of_lt (Nat.lt_of_lt_of_le (qzz25_) yv.out); replace hx126_0 := (HB.out.cell (World.block_lt_of_cell? w _ hx126_0)).trans hx126_0; replace hx126_0 := (cell_far (p := ⟨zh, 0, none⟩) (qzz37_) (.int .i64 ((rd_T45 zb zc).f0))).trans hx126_0; replace hx126_0 := (cell_far (p := ⟨zh, 1, none⟩) (qzz36_) (.string ((rd_T45 zb zc).f1))).trans hx126_0; replace hx126_0 := (cell_far (p := ⟨zh, 2, none⟩) (qzz35_) (.slice (some yx) ((rd_T45 zb zc).f2).length zu)).trans hx126_0; clear hn126_0; clear hn126_1; clear hn126_2; replace p126 := eq_true p126; replace q126 := eq_true q126))
     go_ret
     exact ⟨qzz18_, qzz8_⟩
    rw [if_pos c72] at H
    have c72b0 : (t112 == (rd ((rd_T45 zb zc).f2) zj)) = true := beq_iff_eq.mpr c72
    have c72b1 : (t112 != (rd ((rd_T45 zb zc).f2) zj)) = false := bne_eq_false_iff_eq.mpr c72
    clear c72
    replace H := Option.bind_eq_some_iff.mp H
    obtain ⟨t127, A730, H⟩ := H
    replace H : (some t127) = some r := H
    have A73 := qA_ A730
    clear A730
    obtain rfl := Option.some.inj H
    try go_wp2
    have n0_ := qA_ (blk_drew zd.out)
    have n1_ := qA_ (blk_drew za.out)
    have n2_ := qA_ (below_drew1 HB.out)
    replace zd := n0_
    replace za := n1_
    replace HB := n2_
    clear n0_ n1_ n2_
    refine start_ (n := 10) (S := fun w' => w'.cell? ⟨zg, 0, none⟩ = some (.slice zw zb.length zp) ∧ w'.cell? ⟨zg, 1, none⟩ = some (.int .i64 zc) ∧ w'.cell? ⟨ze, 0, none⟩ = some (.string zk) ∧ w'.cell? ⟨ze, 1, none⟩ = some (.int .i64 zj) ∧ w'.cell? ⟨ze, 2, none⟩ = some (.bool true)) (ds := []) #[false, false, false, false, false, false, false, false, false, false] qk_ rfl rfl ⟨(blk_cell zd.out 0).trans rfl, (blk_cell zd.out 1).trans rfl, (blk_cell za.out 0).trans rfl, (blk_cell za.out 1).trans rfl, (blk_cell za.out 2).trans rfl⟩ (fun zm => ?_); refine with_tabW grommetlaw16_PathOne.tab3 grommetlaw16_PathOne.bits3 (fun HT_ HW_ => ?_)
    generalize wc.drew = w74 at zd za HB zm ⊢
    refine take_ (i := 0) (N := some 27) (v := ?_) (a' := ?_) #[true, false, false, false, false, false, false, false, false, false] rfl rfl (take_ofW HT_.out HW_.out qk_) (fun _ _ _ h => h) (Or.inl ⟨by rfl, ?_⟩) zm ?_ ?_
    rotate_left
    exact qzz43_
    rotate_left
    exact qzz44_
    refine take_ (i := 1) (N := some 28) (v := ?_) (a' := ?_) #[true, true, false, false, false, false, false, false, false, false] rfl rfl (take_ofW HT_.out HW_.out qk_) (fun _ _ _ h => h) (Or.inl ⟨by rfl, ?_⟩) zm ?_ ?_
    rotate_left
    exact qzz43_
    rotate_left
    exact qzz44_
    refine one_ (i := 2) (N := some 29) #[true, true, true, false, false, false, false, false, false, false] rfl rfl (one_of HT_.out qk_) (by decide) (fun K hK => ?_)
    refine Kd.R_lit_step k58 _ 58 ?hg (N := 29) ?hd (xs := ([(⟨zk, zj, true⟩ : S58)] : List (S58))) (inner := [.string zk, .int .i64 zj, .bool true]) (ok := fun _ => True) (okp := fun _ => True) ?hr ?hp (fun _ hk => hk) trivial (Below.refl _ _) (Nat.le_refl _) (by simp) ?_; (case hd => rfl); (case hg => rfl); (case hr => first | (go_simp; done) | (go_simp; rfl)); (case hp => exact (Reps.c3 (show Kd.M k58 _ _ _ (⟨zk, zj, true⟩ : S58) [.string zk, .int .i64 zj, .bool true] from (k58_mkM _ _ _ (⟨zk, zj, true⟩ : S58) )) (Reps.none _ _)))
    intro v107 w75 ho76 hb hg_ hnew_
    clear hg_ hnew_
    (first | rw [← Ny106.out] at ho76 | (simp only [Int.reduceToNat] at ho76; rw [← Ny106.out] at ho76))
    have n0_ := qA_ (Kd.R_lower (Kd.R_newB ho76 (g := ze) (o := .cells #[.string zk, .int .i64 zj, .bool true] 58 (0, 0)) (qzz1_)) (below_size (qzz0_)))
    have n1_ := qA_ (blk_below (g := zg) (o := .cells #[.slice zw zb.length zp, .int .i64 zc] 24 (0, 0)) (qzz3_) hb)
    have n2_ := qA_ (blk_below (g := ze) (o := .cells #[.string zk, .int .i64 zj, .bool true] 58 (0, 0)) (qzz1_) hb)
    have n3_ := qA_ (below_step (qzz0_) hb)
    have zr := n0_
    replace zd := n1_
    replace za := n2_
    replace HB := n3_
    clear n0_ n1_ n2_ n3_
    clear hb ho76
    obtain ⟨Ao77, co77, eo77⟩ := Kd.R_slice zr.out
    (first | subst eo77 | (injection eo77 with f1_ f2_ f3_; have f4_ := f1_.symm; have f5_ := f3_.symm; clear f1_ f2_ f3_; subst f4_; subst f5_))
    refine hK.out _ _ ⟨(blk_cell zd.out 0).trans rfl, (blk_cell zd.out 1).trans rfl, (blk_cell za.out 0).trans rfl, (blk_cell za.out 1).trans rfl, (blk_cell za.out 2).trans rfl⟩ (fun zm => ?_)
    clear hK K
    refine norm_ (a' := ?_) ?_ ?_
    rotate_left
    ·
     show Act.put _ (some 29) _ = _
     simp only [Act.put, List.setIfInBounds_toArray, List.set_cons_zero, List.set_cons_succ, i64_w, i32_w]
     rfl
    refine one_ (i := 3) (N := some 30) #[true, true, true, true, false, false, false, false, false, false] rfl rfl (one_of HT_.out qk_) (by decide) (fun K hK => ?_)
    refine goes_ Tryz.func26 qk_ rfl #[.slice Ao77 y106.length co77] (by rfl) rfl rfl (qzz10_) ?_
    with_reducible refine (grommetlaw16_theirs.calls kj2 _ _ y106 t109 _ ?side1 ?side2 (hG.below (qzz2_)) A27.out).mono ?_
    (case side1 => exact qzz39_)
    (case side2 => exact qzz40_)
    rintro e w78 ⟨v110, rfl, ho0, hb⟩
    refine ⟨_, rfl, ?_⟩
    have n0_ := qA_ (Kd.R_below (qzz9_) hb)
    have n1_ := qA_ (Kd.R_lower ho0 (below_size (qzz0_)))
    have n2_ := qA_ (blk_below (g := zg) (o := .cells #[.slice zw zb.length zp, .int .i64 zc] 24 (0, 0)) (qzz3_) hb)
    have n3_ := qA_ (blk_below (g := ze) (o := .cells #[.string zk, .int .i64 zj, .bool true] 58 (0, 0)) (qzz1_) hb)
    have n4_ := qA_ (below_step (qzz0_) hb)
    replace zr := n0_
    have ya := n1_
    replace zd := n2_
    replace za := n3_
    replace HB := n4_
    clear n0_ n1_ n2_ n3_ n4_
    (try clear hb)
    (try clear hb2)
    (try clear hk)
    (try clear hi)
    (try clear ho0)
    obtain ⟨Ao79, co79, eo79⟩ := Kd.R_slice ya.out
    (first | subst eo79 | (injection eo79 with f1_ f2_ f3_; have f4_ := f1_.symm; have f5_ := f3_.symm; clear f1_ f2_ f3_; subst f4_; subst f5_))
    refine hK.out _ _ ⟨(blk_cell zd.out 0).trans rfl, (blk_cell zd.out 1).trans rfl, (blk_cell za.out 0).trans rfl, (blk_cell za.out 1).trans rfl, (blk_cell za.out 2).trans rfl⟩ (fun zm => ?_)
    clear hK K
    refine norm_ (a' := ?_) ?_ ?_
    rotate_left
    ·
     show Act.put _ (some 30) _ = _
     simp only [Act.put, List.setIfInBounds_toArray, List.set_cons_zero, List.set_cons_succ, i64_w, i32_w]
     rfl
    refine one_ (i := 4) (N := some 31) #[true, true, true, true, true, false, false, false, false, false] rfl rfl (one_of HT_.out qk_) (by decide) (fun K hK => ?_)
    refine goes_ Tryz.func25 qk_ rfl #[.agg #[.slice zw zb.length zp, .int .i64 zc], .slice Ao79 t109.length co79] (by rfl) rfl rfl (qzz10_) ?_
    with_reducible refine (path_Get.calls kj2 _ _ zb zc _ _ t109 t112 t113 _ ?side1 ?side2 ?side3 ?side4 (hG.below (qzz2_)) A28.out).mono ?_
    (case side1 => exact qzz38_)
    (case side2 => exact yp.out)
    (case side3 => exact qzz41_)
    (case side4 => exact qzz42_)
    rintro e w80 ⟨rfl, hb⟩
    refine ⟨_, rfl, ?_⟩
    have n0_ := qA_ (Kd.R_below (qzz9_) hb)
    have n1_ := qA_ (Kd.R_below (qzz12_) hb)
    have n2_ := qA_ (blk_below (g := zg) (o := .cells #[.slice zw zb.length zp, .int .i64 zc] 24 (0, 0)) (qzz3_) hb)
    have n3_ := qA_ (blk_below (g := ze) (o := .cells #[.string zk, .int .i64 zj, .bool true] 58 (0, 0)) (qzz1_) hb)
    have n4_ := qA_ (below_step (qzz0_) hb)
    replace zr := n0_
    replace ya := n1_
    replace zd := n2_
    replace za := n3_
    replace HB := n4_
    clear n0_ n1_ n2_ n3_ n4_
    (try clear hb)
    (try clear hb2)
    (try clear hk)
    (try clear hi)
    refine hK.out _ _ ⟨(blk_cell zd.out 0).trans rfl, (blk_cell zd.out 1).trans rfl, (blk_cell za.out 0).trans rfl, (blk_cell za.out 1).trans rfl, (blk_cell za.out 2).trans rfl⟩ (fun zm => ?_)
    clear hK K
    refine norm_ (a' := ?_) ?_ ?_
    rotate_left
    ·
     show Act.put _ (some 31) _ = _
     simp only [Act.put, List.setIfInBounds_toArray, List.set_cons_zero, List.set_cons_succ, i64_w, i32_w]
     rfl
    refine pure_ (i := 5) (N := some 26) (v := ?_) (a' := ?_) #[true, true, true, true, true, true, false, false, false, false] rfl rfl (any_of HT_.out qk_) (fun _ _ _ h => h) (Or.inl ⟨by rfl, ?_⟩) ?_ ?_
    rotate_left
    exact qzz45_
    rotate_left
    exact qzz44_
    refine pure_ (i := 6) (N := some 32) (v := ?_) (a' := ?_) #[true, true, true, true, true, true, true, false, false, false] rfl rfl (any_of HT_.out qk_) (fun _ _ _ h => h) (Or.inl ⟨by rfl, ?_⟩) ?_ ?_
    rotate_left
    exact qzz45_
    rotate_left
    exact qzz44_
    refine pure_ (i := 7) (N := some 33) (v := ?_) (a' := ?_) #[true, true, true, true, true, true, true, true, false, false] rfl rfl (any_of HT_.out qk_) (fun _ _ _ h => h) (Or.inl ⟨by rfl, ?_⟩) ?_ ?_
    rotate_left
    exact qzz45_
    rotate_left
    exact qzz44_
    refine pure_ (i := 8) (N := some 5) (v := ?_) (a' := ?_) #[true, true, true, true, true, true, true, true, true, false] rfl rfl (any_of HT_.out qk_) (fun _ _ _ h => h) (Or.inl ⟨by rfl, ?_⟩) ?_ ?_
    rotate_left
    exact qzz45_
    rotate_left
    exact qzz44_
    refine pure_ (i := 9) (N := some 6) (v := ?_) (a' := ?_) #[true, true, true, true, true, true, true, true, true, true] rfl rfl (any_of HT_.out qk_) (fun _ _ _ h => h) (Or.inl ⟨by rfl, ?_⟩) ?_ ?_
    rotate_left
    exact qzz45_
    rotate_left
    exact qzz44_
    refine done_ (done_of HT_.out qk_) ?_
    have hnb81 := yj.out
    have hnc81 := yk.out
    have hcz82_0 : w80.cell? ⟨zg, 0, none⟩ = some (.slice zw zb.length zp) := (blk_cell zd.out 0).trans rfl
    have hcz82_1 : w80.cell? ⟨zg, 1, none⟩ = some (.int .i64 zc) := (blk_cell zd.out 1).trans rfl
    have hfz82_0 := blk_frozen zd.out 0
    have hfz82_1 := blk_frozen zd.out 1
    have p123 : 0 ≤ (zc : Int) := of_decide_eq_true (qzz13_)
    have q123 : zc < (zb.length : Int) := of_decide_eq_true (qzz13_)
    obtain ⟨zq, ym, zu, e123, hx123_0, hx123_1, hx123_2, hl123_2, hi123_2⟩ := at_T45 ys.out zc p123 q123
    have KX123_2 := qA_ hx123_2
    cases e123
    replace hx123_0 := (HB.out.cell (World.block_lt_of_cell? w _ hx123_0)).trans hx123_0
    replace hx123_1 := (HB.out.cell (World.block_lt_of_cell? w _ hx123_1)).trans hx123_1
    replace hx123_2 := (HB.out.cell (World.block_lt_of_cell? w _ hx123_2)).trans hx123_2
    have yn := qA_ hi123_2
    have yt := qA_ hl123_2
    clear hi123_2 hl123_2
    replace p123 := eq_true p123
    replace q123 := eq_true q123
    try go_wp2_with (first | ((with_reducible refine gate_dst (N := 9) rfl ?_); (try (refine gate_guard (by rfl) ?_; dsimp only)); refine box_event ?hg (N := 9) ?hd (cs := #[.int .i64 0, .string (⟨#[]⟩ : ByteArray), .slice none 0 0]) (t := 45) ?hr ?_; (case hd => rfl); (case hg => rfl); (case hr => first | (go_simp; done) | (go_simp; rfl)); intro zh hg w83 hbox hb; have n0_ := qA_ (Kd.R_below (qzz9_) hb); have n1_ := qA_ (Kd.R_below (qzz12_) hb); have n2_ := qA_ (blk_below (g := zg) (o := .cells #[.slice (some zq) zb.length zp, .int .i64 zc] 24 (0, 0)) (qzz3_) hb); have n3_ := qA_ (blk_below (g := ze) (o := .cells #[.string zk, .int .i64 zj, .bool true] 58 (0, 0)) (qzz1_) hb); have n4_ := qA_ (below_step (qzz0_) hb); have n5_ := qA_ (hbox); have n6_ := qA_ ((by rw [hg]; exact (below_size (qzz0_)) : w.heap.size ≤ zh)); have n7_ := qA_ ((by rw [hg]; exact (below_size (qzz0_)) : w.heap.size ≤ zh)); have n8_ := qA_ ((by rw [hg]; exact Nat.ne_of_lt (blk_lt (g := zg) (o := .cells #[.slice (some zq) zb.length zp, .int .i64 zc] 24 (0, 0)) (qzz3_)) : zg ≠ zh)); have n9_ := qA_ ((by rw [hg]; exact Nat.ne_of_gt (blk_lt (g := zg) (o := .cells #[.slice (some zq) zb.length zp, .int .i64 zc] 24 (0, 0)) (qzz3_)) : zh ≠ zg)); have n10_ := qA_ ((by rw [hg]; exact Nat.ne_of_lt (blk_lt (g := ze) (o := .cells #[.string zk, .int .i64 zj, .bool true] 58 (0, 0)) (qzz1_)) : ze ≠ zh)); have n11_ := qA_ ((by rw [hg]; exact Nat.ne_of_gt (blk_lt (g := ze) (o := .cells #[.string zk, .int .i64 zj, .bool true] 58 (0, 0)) (qzz1_)) : zh ≠ ze)); replace zr := n0_; replace ya := n1_; replace zd := n2_; replace za := n3_; replace HB := n4_; have zi := n5_; have yv := n6_; have yy := n7_; have zt := n8_; have zy := n9_; have zs := n10_; have zz := n11_; clear n0_ n1_ n2_ n3_ n4_ n5_ n6_ n7_ n8_ n9_ n10_ n11_; clear hb hbox hg; have hnb84 := zy.out; have hnc84 := zt.out; have hnb85 := zz.out; have hnc85 := zs.out; have hcz86_0 : w83.cell? ⟨zh, 0, none⟩ = some (.int .i64 0) := (blk_cell zi.out 0).trans rfl; have hcz86_1 : w83.cell? ⟨zh, 1, none⟩ = some (.string (⟨#[]⟩ : ByteArray)) := (blk_cell zi.out 1).trans rfl; have hcz86_2 : w83.cell? ⟨zh, 2, none⟩ = some (.slice none 0 0) := (blk_cell zi.out 2).trans rfl; have hfz86_0 := blk_frozen zi.out 0; have hfz86_1 := blk_frozen zi.out 1; have hfz86_2 := blk_frozen zi.out 2; have hcz87_0 : w83.cell? ⟨ze, 0, none⟩ = some (.string zk) := (blk_cell za.out 0).trans rfl; have hcz87_1 : w83.cell? ⟨ze, 1, none⟩ = some (.int .i64 zj) := (blk_cell za.out 1).trans rfl; have hcz87_2 : w83.cell? ⟨ze, 2, none⟩ = some (.bool true) := (blk_cell za.out 2).trans rfl; have hfz87_0 := blk_frozen za.out 0; have hfz87_1 := blk_frozen za.out 1; have hfz87_2 := blk_frozen za.out 2; have p126 : 0 ≤ (zj : Int) := of_decide_eq_true (qzz13_); have q126 : zj < (((rd_T45 zb zc).f2).length : Int) := of_decide_eq_true (qzz13_); obtain ⟨yx, e126, hx126_0⟩ := Kd.at_int yn.out zj p126 q126; cases e126; have hn126_0 : yx.block ≠ zh := Nat.ne_of_lt (Nat.lt_of_lt_of_le (qzz25_) yv.out); have hn126_1 : yx.block ≠ zh := Nat.ne_of_lt (Nat.lt_of_lt_of_le (qzz25_) yv.out); have hn126_2 : yx.block ≠ zh := Nat.ne_of_lt (Nat.lt_of_lt_of_le (qzz25_) yv.out); replace hx126_0 := (HB.out.cell (World.block_lt_of_cell? w _ hx126_0)).trans hx126_0; replace hx126_0 := (cell_far (p := ⟨zh, 0, none⟩) (qzz37_) (.int .i64 ((rd_T45 zb zc).f0))).trans hx126_0; replace hx126_0 := (cell_far (p := ⟨zh, 1, none⟩) (qzz36_) (.string ((rd_T45 zb zc).f1))).trans hx126_0; replace hx126_0 := (cell_far (p := ⟨zh, 2, none⟩) (qzz35_) (.slice (some yx) ((rd_T45 zb zc).f2).length zu)).trans hx126_0; clear hn126_0; clear hn126_1; clear hn126_2; replace p126 := eq_true p126; replace q126 := eq_true q126) | (go_at_call 24; (with_reducible refine (grommetlaw16_alive.calls  t127 _ (hG.below (qzz2_)) A73.out).mono ?_); rintro e w88 ⟨rfl, hb⟩; have n0_ := qA_ (Kd.R_below (by (with_reducible repeat (first | apply Kd.R_alloc | apply Kd.R_drewN | apply Kd.R_drew)); exact (Kd.R_mono (Kd.R_far (p := ⟨zh, 2, none⟩) (Kd.R_far (p := ⟨zh, 1, none⟩) (Kd.R_far (p := ⟨zh, 0, none⟩) (Kd.R_types zr.out zi.out (by decide)) (fun _ hk => hk.2) (.int .i64 ((rd_T45 zb zc).f0))) (fun _ hk => hk.2) (.string ((rd_T45 zb zc).f1))) (fun _ hk => hk.2) (.slice (some yx) ((rd_T45 zb zc).f2).length zu)) (fun _ h_ => h_.1))) hb); have n1_ := qA_ (Kd.R_below (by (with_reducible repeat (first | apply Kd.R_alloc | apply Kd.R_drewN | apply Kd.R_drew)); exact (Kd.R_mono (Kd.R_far (p := ⟨zh, 2, none⟩) (Kd.R_far (p := ⟨zh, 1, none⟩) (Kd.R_far (p := ⟨zh, 0, none⟩) (Kd.R_types ya.out zi.out (by decide)) (fun _ hk => hk.2) (.int .i64 ((rd_T45 zb zc).f0))) (fun _ hk => hk.2) (.string ((rd_T45 zb zc).f1))) (fun _ hk => hk.2) (.slice (some yx) ((rd_T45 zb zc).f2).length zu)) (fun _ h_ => h_.1))) hb); have n2_ := qA_ (blk_below (g := zg) (o := .cells #[.slice (some zq) zb.length zp, .int .i64 zc] 24 (0, 0)) (qzz15_) hb); have n3_ := qA_ (blk_below (g := ze) (o := .cells #[.string zk, .int .i64 zj, .bool true] 58 (0, 0)) (qzz14_) hb); have n4_ := qA_ (blk_below (g := zh) (o := .cells #[.int .i64 ((rd_T45 zb zc).f0), .string ((rd_T45 zb zc).f1), .slice (some yx) ((rd_T45 zb zc).f2).length zu] 45 (0, 0)) (qzz11_) hb); have n5_ := qA_ (below_step (qzz8_) hb); replace zr := n0_; replace ya := n1_; replace zd := n2_; replace za := n3_; replace zi := n4_; replace HB := n5_; clear n0_ n1_ n2_ n3_ n4_ n5_; (try clear hb); (try clear hk)))
    go_ret
    exact ⟨qzz18_, qzz8_⟩
   replace c67 := Bool.eq_false_iff.mpr c67
   subst c67
   have H1 : (if ((rd_T45 zb zc).f0) = 6 then (grommetlaw16_PathOne.l0 kj2 t112 t113 0 zb zc zk zj false ((rd_T45 zb zc).f0) ((rd_T45 zb zc).f1) ((rd_T45 zb zc).f2)) else (if t113 = 17 then ((grommetlaw16_alive.f).bind fun t129 => (some t129)) else (some false))) = some r := by rw [if_neg (show ¬ (false = true) by decide)] at H; exact H
   clear H
   have H := H1
   clear H1
   by_cases c179 : ((rd_T45 zb zc).f0) = 6
   rotate_left
   ·
    rw [if_neg c179] at H
    have c179b0 : (((rd_T45 zb zc).f0) == 6) = false := beq_eq_false_iff_ne.mpr c179
    have c179b1 : (((rd_T45 zb zc).f0) != 6) = true := bne_iff_ne.mpr c179
    by_cases c286 : t113 = 17
    rotate_left
    ·
     rw [if_neg c286] at H
     have c286b0 : (t113 == 17) = false := beq_eq_false_iff_ne.mpr c286
     have c286b1 : (t113 != 17) = true := bne_iff_ne.mpr c286
     obtain rfl := Option.some.inj H
     try go_wp2
     have n0_ := qA_ (blk_drew zd.out)
     have n1_ := qA_ (blk_drew za.out)
     have n2_ := qA_ (below_drew1 HB.out)
     replace zd := n0_
     replace za := n1_
     replace HB := n2_
     clear n0_ n1_ n2_
     refine start_ (n := 10) (S := fun w' => w'.cell? ⟨zg, 0, none⟩ = some (.slice zw zb.length zp) ∧ w'.cell? ⟨zg, 1, none⟩ = some (.int .i64 zc) ∧ w'.cell? ⟨ze, 0, none⟩ = some (.string zk) ∧ w'.cell? ⟨ze, 1, none⟩ = some (.int .i64 zj) ∧ w'.cell? ⟨ze, 2, none⟩ = some (.bool false)) (ds := []) #[false, false, false, false, false, false, false, false, false, false] qk_ rfl rfl ⟨(blk_cell zd.out 0).trans rfl, (blk_cell zd.out 1).trans rfl, (blk_cell za.out 0).trans rfl, (blk_cell za.out 1).trans rfl, (blk_cell za.out 2).trans rfl⟩ (fun zm => ?_); refine with_tabW grommetlaw16_PathOne.tab3 grommetlaw16_PathOne.bits3 (fun HT_ HW_ => ?_)
     generalize wc.drew = w303 at zd za HB zm ⊢
     refine take_ (i := 0) (N := some 27) (v := ?_) (a' := ?_) #[true, false, false, false, false, false, false, false, false, false] rfl rfl (take_ofW HT_.out HW_.out qk_) (fun _ _ _ h => h) (Or.inl ⟨by rfl, ?_⟩) zm ?_ ?_
     rotate_left
     exact qzz43_
     rotate_left
     exact qzz44_
     refine take_ (i := 1) (N := some 28) (v := ?_) (a' := ?_) #[true, true, false, false, false, false, false, false, false, false] rfl rfl (take_ofW HT_.out HW_.out qk_) (fun _ _ _ h => h) (Or.inl ⟨by rfl, ?_⟩) zm ?_ ?_
     rotate_left
     exact qzz43_
     rotate_left
     exact qzz44_
     refine one_ (i := 2) (N := some 29) #[true, true, true, false, false, false, false, false, false, false] rfl rfl (one_of HT_.out qk_) (by decide) (fun K hK => ?_)
     refine Kd.R_lit_step k58 _ 58 ?hg (N := 29) ?hd (xs := ([(⟨zk, zj, false⟩ : S58)] : List (S58))) (inner := [.string zk, .int .i64 zj, .bool false]) (ok := fun _ => True) (okp := fun _ => True) ?hr ?hp (fun _ hk => hk) trivial (Below.refl _ _) (Nat.le_refl _) (by simp) ?_; (case hd => rfl); (case hg => rfl); (case hr => first | (go_simp; done) | (go_simp; rfl)); (case hp => exact (Reps.c3 (show Kd.M k58 _ _ _ (⟨zk, zj, false⟩ : S58) [.string zk, .int .i64 zj, .bool false] from (k58_mkM _ _ _ (⟨zk, zj, false⟩ : S58) )) (Reps.none _ _)))
     intro v107 w304 ho305 hb hg_ hnew_
     clear hg_ hnew_
     (first | rw [← Ny106.out] at ho305 | (simp only [Int.reduceToNat] at ho305; rw [← Ny106.out] at ho305))
     have n0_ := qA_ (Kd.R_lower (Kd.R_newB ho305 (g := ze) (o := .cells #[.string zk, .int .i64 zj, .bool false] 58 (0, 0)) (qzz1_)) (below_size (qzz0_)))
     have n1_ := qA_ (blk_below (g := zg) (o := .cells #[.slice zw zb.length zp, .int .i64 zc] 24 (0, 0)) (qzz3_) hb)
     have n2_ := qA_ (blk_below (g := ze) (o := .cells #[.string zk, .int .i64 zj, .bool false] 58 (0, 0)) (qzz1_) hb)
     have n3_ := qA_ (below_step (qzz0_) hb)
     have zr := n0_
     replace zd := n1_
     replace za := n2_
     replace HB := n3_
     clear n0_ n1_ n2_ n3_
     clear hb ho305
     obtain ⟨Ao306, co306, eo306⟩ := Kd.R_slice zr.out
     (first | subst eo306 | (injection eo306 with f1_ f2_ f3_; have f4_ := f1_.symm; have f5_ := f3_.symm; clear f1_ f2_ f3_; subst f4_; subst f5_))
     refine hK.out _ _ ⟨(blk_cell zd.out 0).trans rfl, (blk_cell zd.out 1).trans rfl, (blk_cell za.out 0).trans rfl, (blk_cell za.out 1).trans rfl, (blk_cell za.out 2).trans rfl⟩ (fun zm => ?_)
     clear hK K
     refine norm_ (a' := ?_) ?_ ?_
     rotate_left
     ·
      show Act.put _ (some 29) _ = _
      simp only [Act.put, List.setIfInBounds_toArray, List.set_cons_zero, List.set_cons_succ, i64_w, i32_w]
      rfl
     refine one_ (i := 3) (N := some 30) #[true, true, true, true, false, false, false, false, false, false] rfl rfl (one_of HT_.out qk_) (by decide) (fun K hK => ?_)
     refine goes_ Tryz.func26 qk_ rfl #[.slice Ao306 y106.length co306] (by rfl) rfl rfl (qzz10_) ?_
     with_reducible refine (grommetlaw16_theirs.calls kj2 _ _ y106 t109 _ ?side1 ?side2 (hG.below (qzz2_)) A27.out).mono ?_
     (case side1 => exact qzz39_)
     (case side2 => exact qzz40_)
     rintro e w307 ⟨v110, rfl, ho0, hb⟩
     refine ⟨_, rfl, ?_⟩
     have n0_ := qA_ (Kd.R_below (qzz9_) hb)
     have n1_ := qA_ (Kd.R_lower ho0 (below_size (qzz0_)))
     have n2_ := qA_ (blk_below (g := zg) (o := .cells #[.slice zw zb.length zp, .int .i64 zc] 24 (0, 0)) (qzz3_) hb)
     have n3_ := qA_ (blk_below (g := ze) (o := .cells #[.string zk, .int .i64 zj, .bool false] 58 (0, 0)) (qzz1_) hb)
     have n4_ := qA_ (below_step (qzz0_) hb)
     replace zr := n0_
     have ya := n1_
     replace zd := n2_
     replace za := n3_
     replace HB := n4_
     clear n0_ n1_ n2_ n3_ n4_
     (try clear hb)
     (try clear hb2)
     (try clear hk)
     (try clear hi)
     (try clear ho0)
     obtain ⟨Ao308, co308, eo308⟩ := Kd.R_slice ya.out
     (first | subst eo308 | (injection eo308 with f1_ f2_ f3_; have f4_ := f1_.symm; have f5_ := f3_.symm; clear f1_ f2_ f3_; subst f4_; subst f5_))
     refine hK.out _ _ ⟨(blk_cell zd.out 0).trans rfl, (blk_cell zd.out 1).trans rfl, (blk_cell za.out 0).trans rfl, (blk_cell za.out 1).trans rfl, (blk_cell za.out 2).trans rfl⟩ (fun zm => ?_)
     clear hK K
     refine norm_ (a' := ?_) ?_ ?_
     rotate_left
     ·
      show Act.put _ (some 30) _ = _
      simp only [Act.put, List.setIfInBounds_toArray, List.set_cons_zero, List.set_cons_succ, i64_w, i32_w]
      rfl
     refine one_ (i := 4) (N := some 31) #[true, true, true, true, true, false, false, false, false, false] rfl rfl (one_of HT_.out qk_) (by decide) (fun K hK => ?_)
     refine goes_ Tryz.func25 qk_ rfl #[.agg #[.slice zw zb.length zp, .int .i64 zc], .slice Ao308 t109.length co308] (by rfl) rfl rfl (qzz10_) ?_
     with_reducible refine (path_Get.calls kj2 _ _ zb zc _ _ t109 t112 t113 _ ?side1 ?side2 ?side3 ?side4 (hG.below (qzz2_)) A28.out).mono ?_
     (case side1 => exact qzz38_)
     (case side2 => exact yp.out)
     (case side3 => exact qzz41_)
     (case side4 => exact qzz42_)
     rintro e w309 ⟨rfl, hb⟩
     refine ⟨_, rfl, ?_⟩
     have n0_ := qA_ (Kd.R_below (qzz9_) hb)
     have n1_ := qA_ (Kd.R_below (qzz12_) hb)
     have n2_ := qA_ (blk_below (g := zg) (o := .cells #[.slice zw zb.length zp, .int .i64 zc] 24 (0, 0)) (qzz3_) hb)
     have n3_ := qA_ (blk_below (g := ze) (o := .cells #[.string zk, .int .i64 zj, .bool false] 58 (0, 0)) (qzz1_) hb)
     have n4_ := qA_ (below_step (qzz0_) hb)
     replace zr := n0_
     replace ya := n1_
     replace zd := n2_
     replace za := n3_
     replace HB := n4_
     clear n0_ n1_ n2_ n3_ n4_
     (try clear hb)
     (try clear hb2)
     (try clear hk)
     (try clear hi)
     refine hK.out _ _ ⟨(blk_cell zd.out 0).trans rfl, (blk_cell zd.out 1).trans rfl, (blk_cell za.out 0).trans rfl, (blk_cell za.out 1).trans rfl, (blk_cell za.out 2).trans rfl⟩ (fun zm => ?_)
     clear hK K
     refine norm_ (a' := ?_) ?_ ?_
     rotate_left
     ·
      show Act.put _ (some 31) _ = _
      simp only [Act.put, List.setIfInBounds_toArray, List.set_cons_zero, List.set_cons_succ, i64_w, i32_w]
      rfl
     refine pure_ (i := 5) (N := some 26) (v := ?_) (a' := ?_) #[true, true, true, true, true, true, false, false, false, false] rfl rfl (any_of HT_.out qk_) (fun _ _ _ h => h) (Or.inl ⟨by rfl, ?_⟩) ?_ ?_
     rotate_left
     exact qzz45_
     rotate_left
     exact qzz44_
     refine pure_ (i := 6) (N := some 32) (v := ?_) (a' := ?_) #[true, true, true, true, true, true, true, false, false, false] rfl rfl (any_of HT_.out qk_) (fun _ _ _ h => h) (Or.inl ⟨by rfl, ?_⟩) ?_ ?_
     rotate_left
     exact qzz45_
     rotate_left
     exact qzz44_
     refine pure_ (i := 7) (N := some 33) (v := ?_) (a' := ?_) #[true, true, true, true, true, true, true, true, false, false] rfl rfl (any_of HT_.out qk_) (fun _ _ _ h => h) (Or.inl ⟨by rfl, ?_⟩) ?_ ?_
     rotate_left
     exact qzz45_
     rotate_left
     exact qzz44_
     refine pure_ (i := 8) (N := some 5) (v := ?_) (a' := ?_) #[true, true, true, true, true, true, true, true, true, false] rfl rfl (any_of HT_.out qk_) (fun _ _ _ h => h) (Or.inl ⟨by rfl, ?_⟩) ?_ ?_
     rotate_left
     exact qzz45_
     rotate_left
     exact qzz44_
     refine pure_ (i := 9) (N := some 6) (v := ?_) (a' := ?_) #[true, true, true, true, true, true, true, true, true, true] rfl rfl (any_of HT_.out qk_) (fun _ _ _ h => h) (Or.inl ⟨by rfl, ?_⟩) ?_ ?_
     rotate_left
     exact qzz45_
     rotate_left
     exact qzz44_
     refine done_ (done_of HT_.out qk_) ?_
     have hnb310 := yj.out
     have hnc310 := yk.out
     have hcz311_0 : w309.cell? ⟨zg, 0, none⟩ = some (.slice zw zb.length zp) := (blk_cell zd.out 0).trans rfl
     have hcz311_1 : w309.cell? ⟨zg, 1, none⟩ = some (.int .i64 zc) := (blk_cell zd.out 1).trans rfl
     have hfz311_0 := blk_frozen zd.out 0
     have hfz311_1 := blk_frozen zd.out 1
     have p123 : 0 ≤ (zc : Int) := of_decide_eq_true (qzz13_)
     have q123 : zc < (zb.length : Int) := of_decide_eq_true (qzz13_)
     obtain ⟨zq, ym, zu, e123, hx123_0, hx123_1, hx123_2, hl123_2, hi123_2⟩ := at_T45 ys.out zc p123 q123
     have KX123_2 := qA_ hx123_2
     cases e123
     replace hx123_0 := (HB.out.cell (World.block_lt_of_cell? w _ hx123_0)).trans hx123_0
     replace hx123_1 := (HB.out.cell (World.block_lt_of_cell? w _ hx123_1)).trans hx123_1
     replace hx123_2 := (HB.out.cell (World.block_lt_of_cell? w _ hx123_2)).trans hx123_2
     have yn := qA_ hi123_2
     have yt := qA_ hl123_2
     clear hi123_2 hl123_2
     replace p123 := eq_true p123
     replace q123 := eq_true q123
     try go_wp2_with (first | ((with_reducible refine gate_dst (N := 9) rfl ?_); (try (refine gate_guard (by rfl) ?_; dsimp only)); refine box_event ?hg (N := 9) ?hd (cs := #[.int .i64 0, .string (⟨#[]⟩ : ByteArray), .slice none 0 0]) (t := 45) ?hr ?_; (case hd => rfl); (case hg => rfl); (case hr => first | (go_simp; done) | (go_simp; rfl)); intro zh hg w312 hbox hb; have n0_ := qA_ (Kd.R_below (qzz9_) hb); have n1_ := qA_ (Kd.R_below (qzz12_) hb); have n2_ := qA_ (blk_below (g := zg) (o := .cells #[.slice (some zq) zb.length zp, .int .i64 zc] 24 (0, 0)) (qzz3_) hb); have n3_ := qA_ (blk_below (g := ze) (o := .cells #[.string zk, .int .i64 zj, .bool false] 58 (0, 0)) (qzz1_) hb); have n4_ := qA_ (below_step (qzz0_) hb); have n5_ := qA_ (hbox); have n6_ := qA_ ((by rw [hg]; exact (below_size (qzz0_)) : w.heap.size ≤ zh)); have n7_ := qA_ ((by rw [hg]; exact (below_size (qzz0_)) : w.heap.size ≤ zh)); have n8_ := qA_ ((by rw [hg]; exact Nat.ne_of_lt (blk_lt (g := zg) (o := .cells #[.slice (some zq) zb.length zp, .int .i64 zc] 24 (0, 0)) (qzz3_)) : zg ≠ zh)); have n9_ := qA_ ((by rw [hg]; exact Nat.ne_of_gt (blk_lt (g := zg) (o := .cells #[.slice (some zq) zb.length zp, .int .i64 zc] 24 (0, 0)) (qzz3_)) : zh ≠ zg)); have n10_ := qA_ ((by rw [hg]; exact Nat.ne_of_lt (blk_lt (g := ze) (o := .cells #[.string zk, .int .i64 zj, .bool false] 58 (0, 0)) (qzz1_)) : ze ≠ zh)); have n11_ := qA_ ((by rw [hg]; exact Nat.ne_of_gt (blk_lt (g := ze) (o := .cells #[.string zk, .int .i64 zj, .bool false] 58 (0, 0)) (qzz1_)) : zh ≠ ze)); replace zr := n0_; replace ya := n1_; replace zd := n2_; replace za := n3_; replace HB := n4_; have zi := n5_; have yv := n6_; have yy := n7_; have zt := n8_; have zy := n9_; have zs := n10_; have zz := n11_; clear n0_ n1_ n2_ n3_ n4_ n5_ n6_ n7_ n8_ n9_ n10_ n11_; clear hb hbox hg; have hnb313 := zy.out; have hnc313 := zt.out; have hnb314 := zz.out; have hnc314 := zs.out; have hcz315_0 : w312.cell? ⟨zh, 0, none⟩ = some (.int .i64 0) := (blk_cell zi.out 0).trans rfl; have hcz315_1 : w312.cell? ⟨zh, 1, none⟩ = some (.string (⟨#[]⟩ : ByteArray)) := (blk_cell zi.out 1).trans rfl; have hcz315_2 : w312.cell? ⟨zh, 2, none⟩ = some (.slice none 0 0) := (blk_cell zi.out 2).trans rfl; have hfz315_0 := blk_frozen zi.out 0; have hfz315_1 := blk_frozen zi.out 1; have hfz315_2 := blk_frozen zi.out 2; have hcz316_0 : w312.cell? ⟨ze, 0, none⟩ = some (.string zk) := (blk_cell za.out 0).trans rfl; have hcz316_1 : w312.cell? ⟨ze, 1, none⟩ = some (.int .i64 zj) := (blk_cell za.out 1).trans rfl; have hcz316_2 : w312.cell? ⟨ze, 2, none⟩ = some (.bool false) := (blk_cell za.out 2).trans rfl; have hfz316_0 := blk_frozen za.out 0; have hfz316_1 := blk_frozen za.out 1; have hfz316_2 := blk_frozen za.out 2))
     go_ret
     exact ⟨qzz18_, qzz8_⟩
    rw [if_pos c286] at H
    have c286b0 : (t113 == 17) = true := beq_iff_eq.mpr c286
    have c286b1 : (t113 != 17) = false := bne_eq_false_iff_eq.mpr c286
    clear c286
    replace H := Option.bind_eq_some_iff.mp H
    obtain ⟨t129, A2870, H⟩ := H
    replace H : (some t129) = some r := H
    have A287 := qA_ A2870
    clear A2870
    obtain rfl := Option.some.inj H
    try go_wp2
    have n0_ := qA_ (blk_drew zd.out)
    have n1_ := qA_ (blk_drew za.out)
    have n2_ := qA_ (below_drew1 HB.out)
    replace zd := n0_
    replace za := n1_
    replace HB := n2_
    clear n0_ n1_ n2_
    refine start_ (n := 10) (S := fun w' => w'.cell? ⟨zg, 0, none⟩ = some (.slice zw zb.length zp) ∧ w'.cell? ⟨zg, 1, none⟩ = some (.int .i64 zc) ∧ w'.cell? ⟨ze, 0, none⟩ = some (.string zk) ∧ w'.cell? ⟨ze, 1, none⟩ = some (.int .i64 zj) ∧ w'.cell? ⟨ze, 2, none⟩ = some (.bool false)) (ds := []) #[false, false, false, false, false, false, false, false, false, false] qk_ rfl rfl ⟨(blk_cell zd.out 0).trans rfl, (blk_cell zd.out 1).trans rfl, (blk_cell za.out 0).trans rfl, (blk_cell za.out 1).trans rfl, (blk_cell za.out 2).trans rfl⟩ (fun zm => ?_); refine with_tabW grommetlaw16_PathOne.tab3 grommetlaw16_PathOne.bits3 (fun HT_ HW_ => ?_)
    generalize wc.drew = w288 at zd za HB zm ⊢
    refine take_ (i := 0) (N := some 27) (v := ?_) (a' := ?_) #[true, false, false, false, false, false, false, false, false, false] rfl rfl (take_ofW HT_.out HW_.out qk_) (fun _ _ _ h => h) (Or.inl ⟨by rfl, ?_⟩) zm ?_ ?_
    rotate_left
    exact qzz43_
    rotate_left
    exact qzz44_
    refine take_ (i := 1) (N := some 28) (v := ?_) (a' := ?_) #[true, true, false, false, false, false, false, false, false, false] rfl rfl (take_ofW HT_.out HW_.out qk_) (fun _ _ _ h => h) (Or.inl ⟨by rfl, ?_⟩) zm ?_ ?_
    rotate_left
    exact qzz43_
    rotate_left
    exact qzz44_
    refine one_ (i := 2) (N := some 29) #[true, true, true, false, false, false, false, false, false, false] rfl rfl (one_of HT_.out qk_) (by decide) (fun K hK => ?_)
    refine Kd.R_lit_step k58 _ 58 ?hg (N := 29) ?hd (xs := ([(⟨zk, zj, false⟩ : S58)] : List (S58))) (inner := [.string zk, .int .i64 zj, .bool false]) (ok := fun _ => True) (okp := fun _ => True) ?hr ?hp (fun _ hk => hk) trivial (Below.refl _ _) (Nat.le_refl _) (by simp) ?_; (case hd => rfl); (case hg => rfl); (case hr => first | (go_simp; done) | (go_simp; rfl)); (case hp => exact (Reps.c3 (show Kd.M k58 _ _ _ (⟨zk, zj, false⟩ : S58) [.string zk, .int .i64 zj, .bool false] from (k58_mkM _ _ _ (⟨zk, zj, false⟩ : S58) )) (Reps.none _ _)))
    intro v107 w289 ho290 hb hg_ hnew_
    clear hg_ hnew_
    (first | rw [← Ny106.out] at ho290 | (simp only [Int.reduceToNat] at ho290; rw [← Ny106.out] at ho290))
    have n0_ := qA_ (Kd.R_lower (Kd.R_newB ho290 (g := ze) (o := .cells #[.string zk, .int .i64 zj, .bool false] 58 (0, 0)) (qzz1_)) (below_size (qzz0_)))
    have n1_ := qA_ (blk_below (g := zg) (o := .cells #[.slice zw zb.length zp, .int .i64 zc] 24 (0, 0)) (qzz3_) hb)
    have n2_ := qA_ (blk_below (g := ze) (o := .cells #[.string zk, .int .i64 zj, .bool false] 58 (0, 0)) (qzz1_) hb)
    have n3_ := qA_ (below_step (qzz0_) hb)
    have zr := n0_
    replace zd := n1_
    replace za := n2_
    replace HB := n3_
    clear n0_ n1_ n2_ n3_
    clear hb ho290
    obtain ⟨Ao291, co291, eo291⟩ := Kd.R_slice zr.out
    (first | subst eo291 | (injection eo291 with f1_ f2_ f3_; have f4_ := f1_.symm; have f5_ := f3_.symm; clear f1_ f2_ f3_; subst f4_; subst f5_))
    refine hK.out _ _ ⟨(blk_cell zd.out 0).trans rfl, (blk_cell zd.out 1).trans rfl, (blk_cell za.out 0).trans rfl, (blk_cell za.out 1).trans rfl, (blk_cell za.out 2).trans rfl⟩ (fun zm => ?_)
    clear hK K
    refine norm_ (a' := ?_) ?_ ?_
    rotate_left
    ·
     show Act.put _ (some 29) _ = _
     simp only [Act.put, List.setIfInBounds_toArray, List.set_cons_zero, List.set_cons_succ, i64_w, i32_w]
     rfl
    refine one_ (i := 3) (N := some 30) #[true, true, true, true, false, false, false, false, false, false] rfl rfl (one_of HT_.out qk_) (by decide) (fun K hK => ?_)
    refine goes_ Tryz.func26 qk_ rfl #[.slice Ao291 y106.length co291] (by rfl) rfl rfl (qzz10_) ?_
    with_reducible refine (grommetlaw16_theirs.calls kj2 _ _ y106 t109 _ ?side1 ?side2 (hG.below (qzz2_)) A27.out).mono ?_
    (case side1 => exact qzz39_)
    (case side2 => exact qzz40_)
    rintro e w292 ⟨v110, rfl, ho0, hb⟩
    refine ⟨_, rfl, ?_⟩
    have n0_ := qA_ (Kd.R_below (qzz9_) hb)
    have n1_ := qA_ (Kd.R_lower ho0 (below_size (qzz0_)))
    have n2_ := qA_ (blk_below (g := zg) (o := .cells #[.slice zw zb.length zp, .int .i64 zc] 24 (0, 0)) (qzz3_) hb)
    have n3_ := qA_ (blk_below (g := ze) (o := .cells #[.string zk, .int .i64 zj, .bool false] 58 (0, 0)) (qzz1_) hb)
    have n4_ := qA_ (below_step (qzz0_) hb)
    replace zr := n0_
    have ya := n1_
    replace zd := n2_
    replace za := n3_
    replace HB := n4_
    clear n0_ n1_ n2_ n3_ n4_
    (try clear hb)
    (try clear hb2)
    (try clear hk)
    (try clear hi)
    (try clear ho0)
    obtain ⟨Ao293, co293, eo293⟩ := Kd.R_slice ya.out
    (first | subst eo293 | (injection eo293 with f1_ f2_ f3_; have f4_ := f1_.symm; have f5_ := f3_.symm; clear f1_ f2_ f3_; subst f4_; subst f5_))
    refine hK.out _ _ ⟨(blk_cell zd.out 0).trans rfl, (blk_cell zd.out 1).trans rfl, (blk_cell za.out 0).trans rfl, (blk_cell za.out 1).trans rfl, (blk_cell za.out 2).trans rfl⟩ (fun zm => ?_)
    clear hK K
    refine norm_ (a' := ?_) ?_ ?_
    rotate_left
    ·
     show Act.put _ (some 30) _ = _
     simp only [Act.put, List.setIfInBounds_toArray, List.set_cons_zero, List.set_cons_succ, i64_w, i32_w]
     rfl
    refine one_ (i := 4) (N := some 31) #[true, true, true, true, true, false, false, false, false, false] rfl rfl (one_of HT_.out qk_) (by decide) (fun K hK => ?_)
    refine goes_ Tryz.func25 qk_ rfl #[.agg #[.slice zw zb.length zp, .int .i64 zc], .slice Ao293 t109.length co293] (by rfl) rfl rfl (qzz10_) ?_
    with_reducible refine (path_Get.calls kj2 _ _ zb zc _ _ t109 t112 t113 _ ?side1 ?side2 ?side3 ?side4 (hG.below (qzz2_)) A28.out).mono ?_
    (case side1 => exact qzz38_)
    (case side2 => exact yp.out)
    (case side3 => exact qzz41_)
    (case side4 => exact qzz42_)
    rintro e w294 ⟨rfl, hb⟩
    refine ⟨_, rfl, ?_⟩
    have n0_ := qA_ (Kd.R_below (qzz9_) hb)
    have n1_ := qA_ (Kd.R_below (qzz12_) hb)
    have n2_ := qA_ (blk_below (g := zg) (o := .cells #[.slice zw zb.length zp, .int .i64 zc] 24 (0, 0)) (qzz3_) hb)
    have n3_ := qA_ (blk_below (g := ze) (o := .cells #[.string zk, .int .i64 zj, .bool false] 58 (0, 0)) (qzz1_) hb)
    have n4_ := qA_ (below_step (qzz0_) hb)
    replace zr := n0_
    replace ya := n1_
    replace zd := n2_
    replace za := n3_
    replace HB := n4_
    clear n0_ n1_ n2_ n3_ n4_
    (try clear hb)
    (try clear hb2)
    (try clear hk)
    (try clear hi)
    refine hK.out _ _ ⟨(blk_cell zd.out 0).trans rfl, (blk_cell zd.out 1).trans rfl, (blk_cell za.out 0).trans rfl, (blk_cell za.out 1).trans rfl, (blk_cell za.out 2).trans rfl⟩ (fun zm => ?_)
    clear hK K
    refine norm_ (a' := ?_) ?_ ?_
    rotate_left
    ·
     show Act.put _ (some 31) _ = _
     simp only [Act.put, List.setIfInBounds_toArray, List.set_cons_zero, List.set_cons_succ, i64_w, i32_w]
     rfl
    refine pure_ (i := 5) (N := some 26) (v := ?_) (a' := ?_) #[true, true, true, true, true, true, false, false, false, false] rfl rfl (any_of HT_.out qk_) (fun _ _ _ h => h) (Or.inl ⟨by rfl, ?_⟩) ?_ ?_
    rotate_left
    exact qzz45_
    rotate_left
    exact qzz44_
    refine pure_ (i := 6) (N := some 32) (v := ?_) (a' := ?_) #[true, true, true, true, true, true, true, false, false, false] rfl rfl (any_of HT_.out qk_) (fun _ _ _ h => h) (Or.inl ⟨by rfl, ?_⟩) ?_ ?_
    rotate_left
    exact qzz45_
    rotate_left
    exact qzz44_
    refine pure_ (i := 7) (N := some 33) (v := ?_) (a' := ?_) #[true, true, true, true, true, true, true, true, false, false] rfl rfl (any_of HT_.out qk_) (fun _ _ _ h => h) (Or.inl ⟨by rfl, ?_⟩) ?_ ?_
    rotate_left
    exact qzz45_
    rotate_left
    exact qzz44_
    refine pure_ (i := 8) (N := some 5) (v := ?_) (a' := ?_) #[true, true, true, true, true, true, true, true, true, false] rfl rfl (any_of HT_.out qk_) (fun _ _ _ h => h) (Or.inl ⟨by rfl, ?_⟩) ?_ ?_
    rotate_left
    exact qzz45_
    rotate_left
    exact qzz44_
    refine pure_ (i := 9) (N := some 6) (v := ?_) (a' := ?_) #[true, true, true, true, true, true, true, true, true, true] rfl rfl (any_of HT_.out qk_) (fun _ _ _ h => h) (Or.inl ⟨by rfl, ?_⟩) ?_ ?_
    rotate_left
    exact qzz45_
    rotate_left
    exact qzz44_
    refine done_ (done_of HT_.out qk_) ?_
    have hnb295 := yj.out
    have hnc295 := yk.out
    have hcz296_0 : w294.cell? ⟨zg, 0, none⟩ = some (.slice zw zb.length zp) := (blk_cell zd.out 0).trans rfl
    have hcz296_1 : w294.cell? ⟨zg, 1, none⟩ = some (.int .i64 zc) := (blk_cell zd.out 1).trans rfl
    have hfz296_0 := blk_frozen zd.out 0
    have hfz296_1 := blk_frozen zd.out 1
    have p123 : 0 ≤ (zc : Int) := of_decide_eq_true (qzz13_)
    have q123 : zc < (zb.length : Int) := of_decide_eq_true (qzz13_)
    obtain ⟨zq, ym, zu, e123, hx123_0, hx123_1, hx123_2, hl123_2, hi123_2⟩ := at_T45 ys.out zc p123 q123
    have KX123_2 := qA_ hx123_2
    cases e123
    replace hx123_0 := (HB.out.cell (World.block_lt_of_cell? w _ hx123_0)).trans hx123_0
    replace hx123_1 := (HB.out.cell (World.block_lt_of_cell? w _ hx123_1)).trans hx123_1
    replace hx123_2 := (HB.out.cell (World.block_lt_of_cell? w _ hx123_2)).trans hx123_2
    have yn := qA_ hi123_2
    have yt := qA_ hl123_2
    clear hi123_2 hl123_2
    replace p123 := eq_true p123
    replace q123 := eq_true q123
    try go_wp2_with (first | ((with_reducible refine gate_dst (N := 9) rfl ?_); (try (refine gate_guard (by rfl) ?_; dsimp only)); refine box_event ?hg (N := 9) ?hd (cs := #[.int .i64 0, .string (⟨#[]⟩ : ByteArray), .slice none 0 0]) (t := 45) ?hr ?_; (case hd => rfl); (case hg => rfl); (case hr => first | (go_simp; done) | (go_simp; rfl)); intro zh hg w297 hbox hb; have n0_ := qA_ (Kd.R_below (qzz9_) hb); have n1_ := qA_ (Kd.R_below (qzz12_) hb); have n2_ := qA_ (blk_below (g := zg) (o := .cells #[.slice (some zq) zb.length zp, .int .i64 zc] 24 (0, 0)) (qzz3_) hb); have n3_ := qA_ (blk_below (g := ze) (o := .cells #[.string zk, .int .i64 zj, .bool false] 58 (0, 0)) (qzz1_) hb); have n4_ := qA_ (below_step (qzz0_) hb); have n5_ := qA_ (hbox); have n6_ := qA_ ((by rw [hg]; exact (below_size (qzz0_)) : w.heap.size ≤ zh)); have n7_ := qA_ ((by rw [hg]; exact (below_size (qzz0_)) : w.heap.size ≤ zh)); have n8_ := qA_ ((by rw [hg]; exact Nat.ne_of_lt (blk_lt (g := zg) (o := .cells #[.slice (some zq) zb.length zp, .int .i64 zc] 24 (0, 0)) (qzz3_)) : zg ≠ zh)); have n9_ := qA_ ((by rw [hg]; exact Nat.ne_of_gt (blk_lt (g := zg) (o := .cells #[.slice (some zq) zb.length zp, .int .i64 zc] 24 (0, 0)) (qzz3_)) : zh ≠ zg)); have n10_ := qA_ ((by rw [hg]; exact Nat.ne_of_lt (blk_lt (g := ze) (o := .cells #[.string zk, .int .i64 zj, .bool false] 58 (0, 0)) (qzz1_)) : ze ≠ zh)); have n11_ := qA_ ((by rw [hg]; exact Nat.ne_of_gt (blk_lt (g := ze) (o := .cells #[.string zk, .int .i64 zj, .bool false] 58 (0, 0)) (qzz1_)) : zh ≠ ze)); replace zr := n0_; replace ya := n1_; replace zd := n2_; replace za := n3_; replace HB := n4_; have zi := n5_; have yv := n6_; have yy := n7_; have zt := n8_; have zy := n9_; have zs := n10_; have zz := n11_; clear n0_ n1_ n2_ n3_ n4_ n5_ n6_ n7_ n8_ n9_ n10_ n11_; clear hb hbox hg; have hnb298 := zy.out; have hnc298 := zt.out; have hnb299 := zz.out; have hnc299 := zs.out; have hcz300_0 : w297.cell? ⟨zh, 0, none⟩ = some (.int .i64 0) := (blk_cell zi.out 0).trans rfl; have hcz300_1 : w297.cell? ⟨zh, 1, none⟩ = some (.string (⟨#[]⟩ : ByteArray)) := (blk_cell zi.out 1).trans rfl; have hcz300_2 : w297.cell? ⟨zh, 2, none⟩ = some (.slice none 0 0) := (blk_cell zi.out 2).trans rfl; have hfz300_0 := blk_frozen zi.out 0; have hfz300_1 := blk_frozen zi.out 1; have hfz300_2 := blk_frozen zi.out 2; have hcz301_0 : w297.cell? ⟨ze, 0, none⟩ = some (.string zk) := (blk_cell za.out 0).trans rfl; have hcz301_1 : w297.cell? ⟨ze, 1, none⟩ = some (.int .i64 zj) := (blk_cell za.out 1).trans rfl; have hcz301_2 : w297.cell? ⟨ze, 2, none⟩ = some (.bool false) := (blk_cell za.out 2).trans rfl; have hfz301_0 := blk_frozen za.out 0; have hfz301_1 := blk_frozen za.out 1; have hfz301_2 := blk_frozen za.out 2) | (go_at_call 24; (with_reducible refine (grommetlaw16_alive.calls  t129 _ (hG.below (qzz2_)) A287.out).mono ?_); rintro e w302 ⟨rfl, hb⟩; have n0_ := qA_ (Kd.R_below (qzz23_) hb); have n1_ := qA_ (Kd.R_below (qzz22_) hb); have n2_ := qA_ (blk_below (g := zg) (o := .cells #[.slice (some zq) zb.length zp, .int .i64 zc] 24 (0, 0)) (qzz15_) hb); have n3_ := qA_ (blk_below (g := ze) (o := .cells #[.string zk, .int .i64 zj, .bool false] 58 (0, 0)) (qzz14_) hb); have n4_ := qA_ (blk_below (g := zh) (o := .cells #[.int .i64 ((rd_T45 zb zc).f0), .string ((rd_T45 zb zc).f1), .slice ym ((rd_T45 zb zc).f2).length zu] 45 (0, 0)) (qzz11_) hb); have n5_ := qA_ (below_step (qzz8_) hb); replace zr := n0_; replace ya := n1_; replace zd := n2_; replace za := n3_; replace zi := n4_; replace HB := n5_; clear n0_ n1_ n2_ n3_ n4_ n5_; (try clear hb); (try clear hk)))
    go_ret
    exact ⟨qzz18_, qzz8_⟩
   rw [if_pos c179] at H
   have c179b0 : (((rd_T45 zb zc).f0) == 6) = true := beq_iff_eq.mpr c179
   have c179b1 : (((rd_T45 zb zc).f0) != 6) = false := bne_eq_false_iff_eq.mpr c179
   clear c179
   have H' := qA_ H
   clear H
   try go_wp2
   have n0_ := qA_ (blk_drew zd.out)
   have n1_ := qA_ (blk_drew za.out)
   have n2_ := qA_ (below_drew1 HB.out)
   replace zd := n0_
   replace za := n1_
   replace HB := n2_
   clear n0_ n1_ n2_
   refine start_ (n := 10) (S := fun w' => w'.cell? ⟨zg, 0, none⟩ = some (.slice zw zb.length zp) ∧ w'.cell? ⟨zg, 1, none⟩ = some (.int .i64 zc) ∧ w'.cell? ⟨ze, 0, none⟩ = some (.string zk) ∧ w'.cell? ⟨ze, 1, none⟩ = some (.int .i64 zj) ∧ w'.cell? ⟨ze, 2, none⟩ = some (.bool false)) (ds := []) #[false, false, false, false, false, false, false, false, false, false] qk_ rfl rfl ⟨(blk_cell zd.out 0).trans rfl, (blk_cell zd.out 1).trans rfl, (blk_cell za.out 0).trans rfl, (blk_cell za.out 1).trans rfl, (blk_cell za.out 2).trans rfl⟩ (fun zm => ?_); refine with_tabW grommetlaw16_PathOne.tab3 grommetlaw16_PathOne.bits3 (fun HT_ HW_ => ?_)
   generalize wc.drew = w180 at zd za HB zm ⊢
   refine take_ (i := 0) (N := some 27) (v := ?_) (a' := ?_) #[true, false, false, false, false, false, false, false, false, false] rfl rfl (take_ofW HT_.out HW_.out qk_) (fun _ _ _ h => h) (Or.inl ⟨by rfl, ?_⟩) zm ?_ ?_
   rotate_left
   exact qzz43_
   rotate_left
   exact qzz44_
   refine take_ (i := 1) (N := some 28) (v := ?_) (a' := ?_) #[true, true, false, false, false, false, false, false, false, false] rfl rfl (take_ofW HT_.out HW_.out qk_) (fun _ _ _ h => h) (Or.inl ⟨by rfl, ?_⟩) zm ?_ ?_
   rotate_left
   exact qzz43_
   rotate_left
   exact qzz44_
   refine one_ (i := 2) (N := some 29) #[true, true, true, false, false, false, false, false, false, false] rfl rfl (one_of HT_.out qk_) (by decide) (fun K hK => ?_)
   refine Kd.R_lit_step k58 _ 58 ?hg (N := 29) ?hd (xs := ([(⟨zk, zj, false⟩ : S58)] : List (S58))) (inner := [.string zk, .int .i64 zj, .bool false]) (ok := fun _ => True) (okp := fun _ => True) ?hr ?hp (fun _ hk => hk) trivial (Below.refl _ _) (Nat.le_refl _) (by simp) ?_; (case hd => rfl); (case hg => rfl); (case hr => first | (go_simp; done) | (go_simp; rfl)); (case hp => exact (Reps.c3 (show Kd.M k58 _ _ _ (⟨zk, zj, false⟩ : S58) [.string zk, .int .i64 zj, .bool false] from (k58_mkM _ _ _ (⟨zk, zj, false⟩ : S58) )) (Reps.none _ _)))
   intro v107 w181 ho182 hb hg_ hnew_
   clear hg_ hnew_
   (first | rw [← Ny106.out] at ho182 | (simp only [Int.reduceToNat] at ho182; rw [← Ny106.out] at ho182))
   have n0_ := qA_ (Kd.R_lower (Kd.R_newB ho182 (g := ze) (o := .cells #[.string zk, .int .i64 zj, .bool false] 58 (0, 0)) (qzz1_)) (below_size (qzz0_)))
   have n1_ := qA_ (blk_below (g := zg) (o := .cells #[.slice zw zb.length zp, .int .i64 zc] 24 (0, 0)) (qzz3_) hb)
   have n2_ := qA_ (blk_below (g := ze) (o := .cells #[.string zk, .int .i64 zj, .bool false] 58 (0, 0)) (qzz1_) hb)
   have n3_ := qA_ (below_step (qzz0_) hb)
   have zr := n0_
   replace zd := n1_
   replace za := n2_
   replace HB := n3_
   clear n0_ n1_ n2_ n3_
   clear hb ho182
   obtain ⟨Ao183, co183, eo183⟩ := Kd.R_slice zr.out
   (first | subst eo183 | (injection eo183 with f1_ f2_ f3_; have f4_ := f1_.symm; have f5_ := f3_.symm; clear f1_ f2_ f3_; subst f4_; subst f5_))
   refine hK.out _ _ ⟨(blk_cell zd.out 0).trans rfl, (blk_cell zd.out 1).trans rfl, (blk_cell za.out 0).trans rfl, (blk_cell za.out 1).trans rfl, (blk_cell za.out 2).trans rfl⟩ (fun zm => ?_)
   clear hK K
   refine norm_ (a' := ?_) ?_ ?_
   rotate_left
   ·
    show Act.put _ (some 29) _ = _
    simp only [Act.put, List.setIfInBounds_toArray, List.set_cons_zero, List.set_cons_succ, i64_w, i32_w]
    rfl
   refine one_ (i := 3) (N := some 30) #[true, true, true, true, false, false, false, false, false, false] rfl rfl (one_of HT_.out qk_) (by decide) (fun K hK => ?_)
   refine goes_ Tryz.func26 qk_ rfl #[.slice Ao183 y106.length co183] (by rfl) rfl rfl (qzz10_) ?_
   with_reducible refine (grommetlaw16_theirs.calls kj2 _ _ y106 t109 _ ?side1 ?side2 (hG.below (qzz2_)) A27.out).mono ?_
   (case side1 => exact qzz39_)
   (case side2 => exact qzz40_)
   rintro e w184 ⟨v110, rfl, ho0, hb⟩
   refine ⟨_, rfl, ?_⟩
   have n0_ := qA_ (Kd.R_below (qzz9_) hb)
   have n1_ := qA_ (Kd.R_lower ho0 (below_size (qzz0_)))
   have n2_ := qA_ (blk_below (g := zg) (o := .cells #[.slice zw zb.length zp, .int .i64 zc] 24 (0, 0)) (qzz3_) hb)
   have n3_ := qA_ (blk_below (g := ze) (o := .cells #[.string zk, .int .i64 zj, .bool false] 58 (0, 0)) (qzz1_) hb)
   have n4_ := qA_ (below_step (qzz0_) hb)
   replace zr := n0_
   have ya := n1_
   replace zd := n2_
   replace za := n3_
   replace HB := n4_
   clear n0_ n1_ n2_ n3_ n4_
   (try clear hb)
   (try clear hb2)
   (try clear hk)
   (try clear hi)
   (try clear ho0)
   obtain ⟨Ao185, co185, eo185⟩ := Kd.R_slice ya.out
   (first | subst eo185 | (injection eo185 with f1_ f2_ f3_; have f4_ := f1_.symm; have f5_ := f3_.symm; clear f1_ f2_ f3_; subst f4_; subst f5_))
   refine hK.out _ _ ⟨(blk_cell zd.out 0).trans rfl, (blk_cell zd.out 1).trans rfl, (blk_cell za.out 0).trans rfl, (blk_cell za.out 1).trans rfl, (blk_cell za.out 2).trans rfl⟩ (fun zm => ?_)
   clear hK K
   refine norm_ (a' := ?_) ?_ ?_
   rotate_left
   ·
    show Act.put _ (some 30) _ = _
    simp only [Act.put, List.setIfInBounds_toArray, List.set_cons_zero, List.set_cons_succ, i64_w, i32_w]
    rfl
   refine one_ (i := 4) (N := some 31) #[true, true, true, true, true, false, false, false, false, false] rfl rfl (one_of HT_.out qk_) (by decide) (fun K hK => ?_)
   refine goes_ Tryz.func25 qk_ rfl #[.agg #[.slice zw zb.length zp, .int .i64 zc], .slice Ao185 t109.length co185] (by rfl) rfl rfl (qzz10_) ?_
   with_reducible refine (path_Get.calls kj2 _ _ zb zc _ _ t109 t112 t113 _ ?side1 ?side2 ?side3 ?side4 (hG.below (qzz2_)) A28.out).mono ?_
   (case side1 => exact qzz38_)
   (case side2 => exact yp.out)
   (case side3 => exact qzz41_)
   (case side4 => exact qzz42_)
   rintro e w186 ⟨rfl, hb⟩
   refine ⟨_, rfl, ?_⟩
   have n0_ := qA_ (Kd.R_below (qzz9_) hb)
   have n1_ := qA_ (Kd.R_below (qzz12_) hb)
   have n2_ := qA_ (blk_below (g := zg) (o := .cells #[.slice zw zb.length zp, .int .i64 zc] 24 (0, 0)) (qzz3_) hb)
   have n3_ := qA_ (blk_below (g := ze) (o := .cells #[.string zk, .int .i64 zj, .bool false] 58 (0, 0)) (qzz1_) hb)
   have n4_ := qA_ (below_step (qzz0_) hb)
   replace zr := n0_
   replace ya := n1_
   replace zd := n2_
   replace za := n3_
   replace HB := n4_
   clear n0_ n1_ n2_ n3_ n4_
   (try clear hb)
   (try clear hb2)
   (try clear hk)
   (try clear hi)
   refine hK.out _ _ ⟨(blk_cell zd.out 0).trans rfl, (blk_cell zd.out 1).trans rfl, (blk_cell za.out 0).trans rfl, (blk_cell za.out 1).trans rfl, (blk_cell za.out 2).trans rfl⟩ (fun zm => ?_)
   clear hK K
   refine norm_ (a' := ?_) ?_ ?_
   rotate_left
   ·
    show Act.put _ (some 31) _ = _
    simp only [Act.put, List.setIfInBounds_toArray, List.set_cons_zero, List.set_cons_succ, i64_w, i32_w]
    rfl
   refine pure_ (i := 5) (N := some 26) (v := ?_) (a' := ?_) #[true, true, true, true, true, true, false, false, false, false] rfl rfl (any_of HT_.out qk_) (fun _ _ _ h => h) (Or.inl ⟨by rfl, ?_⟩) ?_ ?_
   rotate_left
   exact qzz45_
   rotate_left
   exact qzz44_
   refine pure_ (i := 6) (N := some 32) (v := ?_) (a' := ?_) #[true, true, true, true, true, true, true, false, false, false] rfl rfl (any_of HT_.out qk_) (fun _ _ _ h => h) (Or.inl ⟨by rfl, ?_⟩) ?_ ?_
   rotate_left
   exact qzz45_
   rotate_left
   exact qzz44_
   refine pure_ (i := 7) (N := some 33) (v := ?_) (a' := ?_) #[true, true, true, true, true, true, true, true, false, false] rfl rfl (any_of HT_.out qk_) (fun _ _ _ h => h) (Or.inl ⟨by rfl, ?_⟩) ?_ ?_
   rotate_left
   exact qzz45_
   rotate_left
   exact qzz44_
   refine pure_ (i := 8) (N := some 5) (v := ?_) (a' := ?_) #[true, true, true, true, true, true, true, true, true, false] rfl rfl (any_of HT_.out qk_) (fun _ _ _ h => h) (Or.inl ⟨by rfl, ?_⟩) ?_ ?_
   rotate_left
   exact qzz45_
   rotate_left
   exact qzz44_
   refine pure_ (i := 9) (N := some 6) (v := ?_) (a' := ?_) #[true, true, true, true, true, true, true, true, true, true] rfl rfl (any_of HT_.out qk_) (fun _ _ _ h => h) (Or.inl ⟨by rfl, ?_⟩) ?_ ?_
   rotate_left
   exact qzz45_
   rotate_left
   exact qzz44_
   refine done_ (done_of HT_.out qk_) ?_
   have hnb187 := yj.out
   have hnc187 := yk.out
   have hcz188_0 : w186.cell? ⟨zg, 0, none⟩ = some (.slice zw zb.length zp) := (blk_cell zd.out 0).trans rfl
   have hcz188_1 : w186.cell? ⟨zg, 1, none⟩ = some (.int .i64 zc) := (blk_cell zd.out 1).trans rfl
   have hfz188_0 := blk_frozen zd.out 0
   have hfz188_1 := blk_frozen zd.out 1
   have p123 : 0 ≤ (zc : Int) := of_decide_eq_true (qzz13_)
   have q123 : zc < (zb.length : Int) := of_decide_eq_true (qzz13_)
   obtain ⟨zq, ym, zu, e123, hx123_0, hx123_1, hx123_2, hl123_2, hi123_2⟩ := at_T45 ys.out zc p123 q123
   have KX123_2 := qA_ hx123_2
   cases e123
   replace hx123_0 := (HB.out.cell (World.block_lt_of_cell? w _ hx123_0)).trans hx123_0
   replace hx123_1 := (HB.out.cell (World.block_lt_of_cell? w _ hx123_1)).trans hx123_1
   replace hx123_2 := (HB.out.cell (World.block_lt_of_cell? w _ hx123_2)).trans hx123_2
   have yn := qA_ hi123_2
   have yt := qA_ hl123_2
   clear hi123_2 hl123_2
   replace p123 := eq_true p123
   replace q123 := eq_true q123
   try go_wp2_with (first | ((with_reducible refine gate_dst (N := 9) rfl ?_); (try (refine gate_guard (by rfl) ?_; dsimp only)); refine box_event ?hg (N := 9) ?hd (cs := #[.int .i64 0, .string (⟨#[]⟩ : ByteArray), .slice none 0 0]) (t := 45) ?hr ?_; (case hd => rfl); (case hg => rfl); (case hr => first | (go_simp; done) | (go_simp; rfl)); intro zh hg w189 hbox hb; have n0_ := qA_ (Kd.R_below (qzz9_) hb); have n1_ := qA_ (Kd.R_below (qzz12_) hb); have n2_ := qA_ (blk_below (g := zg) (o := .cells #[.slice (some zq) zb.length zp, .int .i64 zc] 24 (0, 0)) (qzz3_) hb); have n3_ := qA_ (blk_below (g := ze) (o := .cells #[.string zk, .int .i64 zj, .bool false] 58 (0, 0)) (qzz1_) hb); have n4_ := qA_ (below_step (qzz0_) hb); have n5_ := qA_ (hbox); have n6_ := qA_ ((by rw [hg]; exact (below_size (qzz0_)) : w.heap.size ≤ zh)); have n7_ := qA_ ((by rw [hg]; exact (below_size (qzz0_)) : w.heap.size ≤ zh)); have n8_ := qA_ ((by rw [hg]; exact Nat.ne_of_lt (blk_lt (g := zg) (o := .cells #[.slice (some zq) zb.length zp, .int .i64 zc] 24 (0, 0)) (qzz3_)) : zg ≠ zh)); have n9_ := qA_ ((by rw [hg]; exact Nat.ne_of_gt (blk_lt (g := zg) (o := .cells #[.slice (some zq) zb.length zp, .int .i64 zc] 24 (0, 0)) (qzz3_)) : zh ≠ zg)); have n10_ := qA_ ((by rw [hg]; exact Nat.ne_of_lt (blk_lt (g := ze) (o := .cells #[.string zk, .int .i64 zj, .bool false] 58 (0, 0)) (qzz1_)) : ze ≠ zh)); have n11_ := qA_ ((by rw [hg]; exact Nat.ne_of_gt (blk_lt (g := ze) (o := .cells #[.string zk, .int .i64 zj, .bool false] 58 (0, 0)) (qzz1_)) : zh ≠ ze)); replace zr := n0_; replace ya := n1_; replace zd := n2_; replace za := n3_; replace HB := n4_; have zi := n5_; have yv := n6_; have yy := n7_; have zt := n8_; have zy := n9_; have zs := n10_; have zz := n11_; clear n0_ n1_ n2_ n3_ n4_ n5_ n6_ n7_ n8_ n9_ n10_ n11_; clear hb hbox hg; have hnb190 := zy.out; have hnc190 := zt.out; have hnb191 := zz.out; have hnc191 := zs.out; have hcz192_0 : w189.cell? ⟨zh, 0, none⟩ = some (.int .i64 0) := (blk_cell zi.out 0).trans rfl; have hcz192_1 : w189.cell? ⟨zh, 1, none⟩ = some (.string (⟨#[]⟩ : ByteArray)) := (blk_cell zi.out 1).trans rfl; have hcz192_2 : w189.cell? ⟨zh, 2, none⟩ = some (.slice none 0 0) := (blk_cell zi.out 2).trans rfl; have hfz192_0 := blk_frozen zi.out 0; have hfz192_1 := blk_frozen zi.out 1; have hfz192_2 := blk_frozen zi.out 2; have hcz193_0 : w189.cell? ⟨ze, 0, none⟩ = some (.string zk) := (blk_cell za.out 0).trans rfl; have hcz193_1 : w189.cell? ⟨ze, 1, none⟩ = some (.int .i64 zj) := (blk_cell za.out 1).trans rfl; have hcz193_2 : w189.cell? ⟨ze, 2, none⟩ = some (.bool false) := (blk_cell za.out 2).trans rfl; have hfz193_0 := blk_frozen za.out 0; have hfz193_1 := blk_frozen za.out 1; have hfz193_2 := blk_frozen za.out 2))
   go_loopg [10] kj2 (fun kq v10 w' => ∃ (zo : Int), v10 = .int .i64 zo ∧ Aside0 (grommetlaw16_PathOne.l0 kq t112 t113 zo zb zc zk zj false ((rd_T45 zb zc).f0) ((rd_T45 zb zc).f1) ((rd_T45 zb zc).f2) = some r) ∧ Aside0 (kq ≤ kj2) ∧ Aside0 (w'.heap[zg]? = some (.cells #[(.slice (some zq) zb.length zp), .int .i64 zc] 24 (0, 0))) ∧ Aside0 (w'.heap[ze]? = some (.cells #[.string zk, .int .i64 zj, .bool false] 58 (0, 0))) ∧ Aside0 (w'.heap[zh]? = some (.cells #[.int .i64 ((rd_T45 zb zc).f0), .string ((rd_T45 zb zc).f1), (.slice ym ((rd_T45 zb zc).f2).length zu)] 45 (0, 0))) ∧ Aside0 (Below w.heap.size w w'))
   case atStart => exact ⟨(0), (qzz29_), H', ⟨Nat.le_refl _⟩, ⟨qzz15_⟩, ⟨qzz14_⟩, ⟨qzz11_⟩, ⟨qzz8_⟩⟩
   case round =>
    clear H'
    try clear c1
    try clear p1
    try clear q1
    try clear hx1
    try clear c2
    try clear p2
    try clear c3
    try clear c6
    try clear c12
    try clear p12
    try clear q12
    try clear hx12
    try clear c14
    try clear c15
    try clear c16
    try clear c17
    try clear c18
    try clear c19
    try clear c25
    try clear c26
    try clear c67
    try clear c123
    try clear p123
    try clear q123
    try clear hx123
    try clear c148
    try clear c148b0
    try clear c148b1
    try clear c157
    try clear c160
    try clear c161
    try clear c172
    try clear c175
    try clear c176
    try clear c179
    try clear c179b0
    try clear c179b1
    try clear c187
    try clear c190
    try clear c191
    try clear hcz158_0
    try clear hcz158_1
    try clear hcz162_0
    try clear hcz162_1
    try clear hcz162_2
    try clear hcz163_0
    try clear hcz163_1
    try clear hcz163_2
    try clear hcz173_0
    try clear hcz173_1
    try clear hcz177_0
    try clear hcz177_1
    try clear hcz177_2
    try clear hcz178_0
    try clear hcz178_1
    try clear hcz178_2
    try clear hcz188_0
    try clear hcz188_1
    try clear hcz192_0
    try clear hcz192_1
    try clear hcz192_2
    try clear hcz193_0
    try clear hcz193_1
    try clear hcz193_2
    try clear hfz158_0
    try clear hfz158_1
    try clear hfz162_0
    try clear hfz162_1
    try clear hfz162_2
    try clear hfz163_0
    try clear hfz163_1
    try clear hfz163_2
    try clear hfz173_0
    try clear hfz173_1
    try clear hfz177_0
    try clear hfz177_1
    try clear hfz177_2
    try clear hfz178_0
    try clear hfz178_1
    try clear hfz178_2
    try clear hfz188_0
    try clear hfz188_1
    try clear hfz192_0
    try clear hfz192_1
    try clear hfz192_2
    try clear hfz193_0
    try clear hfz193_1
    try clear hfz193_2
    try clear hx123_0
    try clear hx123_1
    try clear hx123_2
    try clear p123
    try clear q123
    obtain ⟨zo, rfl, HA, HK2, zd, za, zi, HB⟩ := hrel
    cases gk with
    | zero => exact absurd HA.out (by simp [grommetlaw16_PathOne.l0])
    | succ k2 =>
     have H := HA.out
     clear HA
     simp only [grommetlaw16_PathOne.l0] at H
     by_cases c194 : (wrap64 (zo + 1)) < (((rd_T45 zb zc).f2).length : Int)
     rotate_left
     ·
      rw [if_neg c194] at H
      have c194b0 : decide ((wrap64 (zo + 1)) < (((rd_T45 zb zc).f2).length : Int)) = false := decide_eq_false c194
      clear c194
      by_cases c277 : t113 = 6
      rotate_left
      ·
       rw [if_neg c277] at H
       have c277b0 : (t113 == 6) = false := beq_eq_false_iff_ne.mpr c277
       have c277b1 : (t113 != 6) = true := bne_iff_ne.mpr c277
       obtain rfl := Option.some.inj H
       have hnb283 := zy.out
       have hnc283 := zt.out
       have hnb284 := zz.out
       have hnc284 := zs.out
       have hcz285_0 : wr.cell? ⟨zh, 0, none⟩ = some (.int .i64 ((rd_T45 zb zc).f0)) := (blk_cell zi.out 0).trans rfl
       have hcz285_1 : wr.cell? ⟨zh, 1, none⟩ = some (.string ((rd_T45 zb zc).f1)) := (blk_cell zi.out 1).trans rfl
       have hcz285_2 : wr.cell? ⟨zh, 2, none⟩ = some (.slice ym ((rd_T45 zb zc).f2).length zu) := (blk_cell zi.out 2).trans rfl
       have hfz285_0 := blk_frozen zi.out 0
       have hfz285_1 := blk_frozen zi.out 1
       have hfz285_2 := blk_frozen zi.out 2
       go_wp2
       go_ret
       exact ⟨qzz18_, qzz8_⟩
      rw [if_pos c277] at H
      have c277b0 : (t113 == 6) = true := beq_iff_eq.mpr c277
      have c277b1 : (t113 != 6) = false := bne_eq_false_iff_eq.mpr c277
      clear c277
      replace H := Option.bind_eq_some_iff.mp H
      obtain ⟨t135, A2780, H⟩ := H
      replace H : (some t135) = some r := H
      have A278 := qA_ A2780
      clear A2780
      obtain rfl := Option.some.inj H
      have hnb279 := zy.out
      have hnc279 := zt.out
      have hnb280 := zz.out
      have hnc280 := zs.out
      have hcz281_0 : wr.cell? ⟨zh, 0, none⟩ = some (.int .i64 ((rd_T45 zb zc).f0)) := (blk_cell zi.out 0).trans rfl
      have hcz281_1 : wr.cell? ⟨zh, 1, none⟩ = some (.string ((rd_T45 zb zc).f1)) := (blk_cell zi.out 1).trans rfl
      have hcz281_2 : wr.cell? ⟨zh, 2, none⟩ = some (.slice ym ((rd_T45 zb zc).f2).length zu) := (blk_cell zi.out 2).trans rfl
      have hfz281_0 := blk_frozen zi.out 0
      have hfz281_1 := blk_frozen zi.out 1
      have hfz281_2 := blk_frozen zi.out 2
      go_wp2_with (first | (go_at_call 24; (with_reducible refine (grommetlaw16_alive.calls  t135 _ (hG.below (qzz2_)) A278.out).mono ?_); rintro e w282 ⟨rfl, hb⟩; have n0_ := qA_ (blk_below (g := zg) (o := .cells #[.slice (some zq) zb.length zp, .int .i64 zc] 24 (0, 0)) (qzz3_) hb); have n1_ := qA_ (blk_below (g := ze) (o := .cells #[.string zk, .int .i64 zj, .bool false] 58 (0, 0)) (qzz1_) hb); have n2_ := qA_ (blk_below (g := zh) (o := .cells #[.int .i64 ((rd_T45 zb zc).f0), .string ((rd_T45 zb zc).f1), .slice ym ((rd_T45 zb zc).f2).length zu] 45 (0, 0)) (qzz16_) hb); have n3_ := qA_ (below_step (qzz8_) hb); replace zd := n0_; replace za := n1_; replace zi := n2_; replace HB := n3_; clear n0_ n1_ n2_ n3_; (try clear hb); (try clear hk)))
      go_ret
      exact ⟨qzz18_, qzz8_⟩
     rw [if_pos c194] at H
     have c194b0 : decide ((wrap64 (zo + 1)) < (((rd_T45 zb zc).f2).length : Int)) = true := decide_eq_true c194
     clear c194
     by_cases c195 : 0 ≤ zo
     rotate_left
     ·
      rw [if_neg c195] at H
      exact absurd H (by simp)
     rw [if_pos c195] at H
     have c195b0 : decide (0 ≤ zo) = true := decide_eq_true c195
     clear c195
     by_cases c196 : zo < (((rd_T45 zb zc).f2).length : Int)
     rotate_left
     ·
      rw [if_neg c196] at H
      exact absurd H (by simp)
     rw [if_pos c196] at H
     have c196b0 : decide (zo < (((rd_T45 zb zc).f2).length : Int)) = true := decide_eq_true c196
     clear c196
     by_cases c197 : 0 ≤ (rd ((rd_T45 zb zc).f2) zo)
     rotate_left
     ·
      rw [if_neg c197] at H
      exact absurd H (by simp)
     rw [if_pos c197] at H
     have c197b0 : decide (0 ≤ (rd ((rd_T45 zb zc).f2) zo)) = true := decide_eq_true c197
     clear c197
     by_cases c198 : (rd ((rd_T45 zb zc).f2) zo) < (zb.length : Int)
     rotate_left
     ·
      rw [if_neg c198] at H
      exact absurd H (by simp)
     rw [if_pos c198] at H
     have c198b0 : decide ((rd ((rd_T45 zb zc).f2) zo) < (zb.length : Int)) = true := decide_eq_true c198
     clear c198
     by_cases c199 : ((rd_T45 zb (rd ((rd_T45 zb zc).f2) zo)).f0) = 4
     rotate_left
     ·
      rw [if_neg c199] at H
      have c199b0 : (((rd_T45 zb (rd ((rd_T45 zb zc).f2) zo)).f0) == 4) = false := beq_eq_false_iff_ne.mpr c199
      have c199b1 : (((rd_T45 zb (rd ((rd_T45 zb zc).f2) zo)).f0) != 4) = true := bne_iff_ne.mpr c199
      have H' := qA_ H
      clear H
      have hnb265 := zy.out
      have hnc265 := zt.out
      have hnb266 := zz.out
      have hnc266 := zs.out
      have hcz267_0 : wr.cell? ⟨zh, 0, none⟩ = some (.int .i64 ((rd_T45 zb zc).f0)) := (blk_cell zi.out 0).trans rfl
      have hcz267_1 : wr.cell? ⟨zh, 1, none⟩ = some (.string ((rd_T45 zb zc).f1)) := (blk_cell zi.out 1).trans rfl
      have hcz267_2 : wr.cell? ⟨zh, 2, none⟩ = some (.slice ym ((rd_T45 zb zc).f2).length zu) := (blk_cell zi.out 2).trans rfl
      have hfz267_0 := blk_frozen zi.out 0
      have hfz267_1 := blk_frozen zi.out 1
      have hfz267_2 := blk_frozen zi.out 2
      try go_wp2
      have n0_ := qA_ (blk_drew zd.out)
      have n1_ := qA_ (blk_drew za.out)
      have n2_ := qA_ (blk_drew zi.out)
      have n3_ := qA_ (below_drew1 HB.out)
      replace zd := n0_
      replace za := n1_
      replace zi := n2_
      replace HB := n3_
      clear n0_ n1_ n2_ n3_
      have p130 : 0 ≤ (zo : Int) := of_decide_eq_true (qzz13_)
      have q130 : zo < (((rd_T45 zb zc).f2).length : Int) := of_decide_eq_true (qzz13_)
      obtain ⟨yl, e130, hx130_0⟩ := Kd.at_int yn.out zo p130 q130
      have yi := hx130_0
      cases e130
      replace hx130_0 := (HB.out.cell (World.block_lt_of_cell? w _ hx130_0)).trans hx130_0
      replace p130 := eq_true p130
      replace q130 := eq_true q130
      have p131 : 0 ≤ ((rd ((rd_T45 zb zc).f2) zo) : Int) := of_decide_eq_true (qzz13_)
      have q131 : (rd ((rd_T45 zb zc).f2) zo) < (zb.length : Int) := of_decide_eq_true (qzz13_)
      obtain ⟨ad131, yq, yr, e131, hx131_0, hx131_1, hx131_2, hl131_2, hi131_2⟩ := at_T45 ys.out (rd ((rd_T45 zb zc).f2) zo) p131 q131
      have KX131_2 := qA_ hx131_2
      have yf := hx131_2
      have yg := hx131_1
      have yh := hx131_0
      obtain rfl : zq = ad131 := (by injection e131)
      replace hx131_0 := (HB.out.cell (World.block_lt_of_cell? w _ hx131_0)).trans hx131_0
      replace hx131_1 := (HB.out.cell (World.block_lt_of_cell? w _ hx131_1)).trans hx131_1
      replace hx131_2 := (HB.out.cell (World.block_lt_of_cell? w _ hx131_2)).trans hx131_2
      have yu := qA_ hi131_2
      have HC131_2 := qA_ hl131_2
      clear hi131_2 hl131_2
      replace p131 := eq_true p131
      replace q131 := eq_true q131
      refine start_ (n := 11) (S := fun w' => w'.cell? ⟨zg, 0, none⟩ = some (.slice (some zq) zb.length zp) ∧ w'.cell? ⟨zg, 1, none⟩ = some (.int .i64 zc) ∧ w'.cell? ⟨zh, 0, none⟩ = some (.int .i64 ((rd_T45 zb zc).f0)) ∧ w'.cell? ⟨zh, 1, none⟩ = some (.string ((rd_T45 zb zc).f1)) ∧ w'.cell? ⟨zh, 2, none⟩ = some (.slice (some yl) ((rd_T45 zb zc).f2).length zu) ∧ w'.cell? (yl.add (zo).toNat) = some (.int .i64 (rd ((rd_T45 zb zc).f2) zo)) ∧ w'.cell? (zq.add (((rd ((rd_T45 zb zc).f2) zo)).toNat * 3)) = some (.int .i64 ((rd_T45 zb (rd ((rd_T45 zb zc).f2) zo)).f0)) ∧ w'.cell? ⟨(zq.add (((rd ((rd_T45 zb zc).f2) zo)).toNat * 3)).block, (zq.add (((rd ((rd_T45 zb zc).f2) zo)).toNat * 3)).off + 1, none⟩ = some (.string ((rd_T45 zb (rd ((rd_T45 zb zc).f2) zo)).f1)) ∧ w'.cell? ⟨(zq.add (((rd ((rd_T45 zb zc).f2) zo)).toNat * 3)).block, (zq.add (((rd ((rd_T45 zb zc).f2) zo)).toNat * 3)).off + 2, none⟩ = some (.slice yq ((rd_T45 zb (rd ((rd_T45 zb zc).f2) zo)).f2).length yr)) (ds := []) #[false, false, false, false, false, false, false, false, false, false, false] qk_ rfl rfl ⟨(blk_cell zd.out 0).trans rfl, (blk_cell zd.out 1).trans rfl, (blk_cell zi.out 0).trans rfl, (blk_cell zi.out 1).trans rfl, (blk_cell zi.out 2).trans rfl, ((HB.out.cell (World.block_lt_of_cell? w _ yi)).trans yi), ((HB.out.cell (World.block_lt_of_cell? w _ yh)).trans yh), ((HB.out.cell (World.block_lt_of_cell? w _ yg)).trans yg), ((HB.out.cell (World.block_lt_of_cell? w _ yf)).trans yf)⟩ (fun zm => ?_); refine with_tabW grommetlaw16_PathOne.tab19 grommetlaw16_PathOne.bits19 (fun HT_ HW_ => ?_)
      generalize wr.drew = w268 at zd za zi HB yu hx130_0 hx131_0 hx131_1 hx131_2 zm ⊢
      refine pure_ (i := 0) (N := some 106) (v := ?_) (a' := ?_) #[true, false, false, false, false, false, false, false, false, false, false] rfl rfl (any_of HT_.out qk_) (fun _ _ _ h => h) (Or.inl ⟨by rfl, ?_⟩) ?_ ?_
      rotate_left
      exact qzz45_
      rotate_left
      exact qzz44_
      refine pure_ (i := 2) (N := some 108) (v := ?_) (a' := ?_) #[true, false, true, false, false, false, false, false, false, false, false] rfl rfl (any_of HT_.out qk_) (fun _ _ _ h => h) (Or.inl ⟨by rfl, ?_⟩) ?_ ?_
      rotate_left
      exact qzz45_
      rotate_left
      exact qzz44_
      refine pure_ (i := 4) (N := some 110) (v := ?_) (a' := ?_) #[true, false, true, false, true, false, false, false, false, false, false] rfl rfl (any_of HT_.out qk_) (fun _ _ _ h => h) (Or.inl ⟨by rfl, ?_⟩) ?_ ?_
      rotate_left
      exact qzz45_
      rotate_left
      exact qzz44_
      refine take_ (i := 1) (N := some 107) (v := ?_) (a' := ?_) #[true, true, true, false, true, false, false, false, false, false, false] rfl rfl (take_ofW HT_.out HW_.out qk_) (fun _ _ _ h => h) (Or.inl ⟨by rfl, ?_⟩) zm ?_ ?_
      rotate_left
      exact qzz46_
      rotate_left
      exact qzz44_
      refine take_ (i := 3) (N := some 109) (v := ?_) (a' := ?_) #[true, true, true, true, true, false, false, false, false, false, false] rfl rfl (take_ofW HT_.out HW_.out qk_) (fun _ _ _ h => h) (Or.inl ⟨by rfl, ?_⟩) zm ?_ ?_
      rotate_left
      exact qzz46_
      rotate_left
      exact qzz44_
      refine pure_ (i := 5) (N := some 111) (v := ?_) (a' := ?_) #[true, true, true, true, true, true, false, false, false, false, false] rfl rfl (any_of HT_.out qk_) (fun _ _ _ h => h) (Or.inl ⟨by rfl, ?_⟩) ?_ ?_
      rotate_left
      exact qzz45_
      rotate_left
      exact qzz44_
      refine take_ (i := 6) (N := some 112) (v := ?_) (a' := ?_) #[true, true, true, true, true, true, true, false, false, false, false] rfl rfl (take_ofW HT_.out HW_.out qk_) (fun _ _ _ h => h) (Or.inl ⟨by rfl, ?_⟩) zm ?_ ?_
      rotate_left
      exact qzz46_
      rotate_left
      exact qzz44_
      refine pure_ (i := 7) (N := some 113) (v := ?_) (a' := ?_) #[true, true, true, true, true, true, true, true, false, false, false] rfl rfl (any_of HT_.out qk_) (fun _ _ _ h => h) (Or.inl ⟨by rfl, ?_⟩) ?_ ?_
      rotate_left
      exact qzz45_
      rotate_left
      exact qzz44_
      refine take_ (i := 8) (N := some 114) (v := ?_) (a' := ?_) #[true, true, true, true, true, true, true, true, true, false, false] rfl rfl (take_ofW HT_.out HW_.out qk_) (fun _ _ _ h => h) (Or.inl ⟨by rfl, ?_⟩) zm ?_ ?_
      rotate_left
      exact qzz46_
      rotate_left
      exact qzz44_
      refine one_ (i := 9) (N := some 11) #[true, true, true, true, true, true, true, true, true, true, false] rfl rfl (one_of HT_.out qk_) (by decide) (fun K hK => ?_)
      refine box_step ?hg (N := 11) ?hd (cs := #[.int .i64 0, .string (⟨#[]⟩ : ByteArray), .slice none 0 0]) (t := 45) ?hr ?_; (case hd => rfl); (case hg => rfl); (case hr => first | (go_simp; done) | (go_simp; rfl))
      intro zf hg w269 hbox hb
      have n0_ := qA_ (blk_below (g := zg) (o := .cells #[.slice (some zq) zb.length zp, .int .i64 zc] 24 (0, 0)) (qzz3_) hb)
      have n1_ := qA_ (blk_below (g := ze) (o := .cells #[.string zk, .int .i64 zj, .bool false] 58 (0, 0)) (qzz1_) hb)
      have n2_ := qA_ (blk_below (g := zh) (o := .cells #[.int .i64 ((rd_T45 zb zc).f0), .string ((rd_T45 zb zc).f1), .slice (some yl) ((rd_T45 zb zc).f2).length zu] 45 (0, 0)) (qzz16_) hb)
      have n3_ := qA_ (below_step (qzz8_) hb)
      have n4_ := qA_ (hbox)
      have n5_ := qA_ ((by rw [hg]; exact (below_size (qzz8_)) : w.heap.size ≤ zf))
      have n6_ := qA_ ((by rw [hg]; exact (below_size (qzz8_)) : w.heap.size ≤ zf))
      have n7_ := qA_ ((by rw [hg]; exact Nat.ne_of_lt (blk_lt (g := zg) (o := .cells #[.slice (some zq) zb.length zp, .int .i64 zc] 24 (0, 0)) (qzz3_)) : zg ≠ zf))
      have n8_ := qA_ ((by rw [hg]; exact Nat.ne_of_gt (blk_lt (g := zg) (o := .cells #[.slice (some zq) zb.length zp, .int .i64 zc] 24 (0, 0)) (qzz3_)) : zf ≠ zg))
      have n9_ := qA_ ((by rw [hg]; exact Nat.ne_of_lt (blk_lt (g := ze) (o := .cells #[.string zk, .int .i64 zj, .bool false] 58 (0, 0)) (qzz1_)) : ze ≠ zf))
      have n10_ := qA_ ((by rw [hg]; exact Nat.ne_of_gt (blk_lt (g := ze) (o := .cells #[.string zk, .int .i64 zj, .bool false] 58 (0, 0)) (qzz1_)) : zf ≠ ze))
      have n11_ := qA_ ((by rw [hg]; exact Nat.ne_of_lt (blk_lt (g := zh) (o := .cells #[.int .i64 ((rd_T45 zb zc).f0), .string ((rd_T45 zb zc).f1), .slice (some yl) ((rd_T45 zb zc).f2).length zu] 45 (0, 0)) (qzz16_)) : zh ≠ zf))
      have n12_ := qA_ ((by rw [hg]; exact Nat.ne_of_gt (blk_lt (g := zh) (o := .cells #[.int .i64 ((rd_T45 zb zc).f0), .string ((rd_T45 zb zc).f1), .slice (some yl) ((rd_T45 zb zc).f2).length zu] 45 (0, 0)) (qzz16_)) : zf ≠ zh))
      replace zd := n0_
      replace za := n1_
      replace zi := n2_
      replace HB := n3_
      have zv := n4_
      have yo := n5_
      have GE132 := n6_
      have zn := n7_
      have yb := n8_
      have zx := n9_
      have yc := n10_
      have zl := n11_
      have yd := n12_
      clear n0_ n1_ n2_ n3_ n4_ n5_ n6_ n7_ n8_ n9_ n10_ n11_ n12_
      clear hb hbox hg
      refine hK.out _ _ ⟨(blk_cell zd.out 0).trans rfl, (blk_cell zd.out 1).trans rfl, (blk_cell zi.out 0).trans rfl, (blk_cell zi.out 1).trans rfl, (blk_cell zi.out 2).trans rfl, ((HB.out.cell (World.block_lt_of_cell? w _ yi)).trans yi), ((HB.out.cell (World.block_lt_of_cell? w _ yh)).trans yh), ((HB.out.cell (World.block_lt_of_cell? w _ yg)).trans yg), ((HB.out.cell (World.block_lt_of_cell? w _ yf)).trans yf)⟩ (fun zm => ?_)
      clear hK K
      refine norm_ (a' := ?_) ?_ ?_
      rotate_left
      ·
       show Act.put _ (some 11) _ = _
       simp only [Act.put, List.setIfInBounds_toArray, List.set_cons_zero, List.set_cons_succ, i64_w, i32_w]
       rfl
      refine one_ (i := 10) (N := none) #[true, true, true, true, true, true, true, true, true, true, true] rfl rfl (one_of HT_.out qk_) (by decide) (fun K hK => ?_)
      have hs270 : w269.cell? ⟨zf, 0, none⟩ = some (.int .i64 0) := (blk_cell zv.out 0).trans rfl
      have hfs270 := blk_frozen zv.out 0
      have hns270_0 := zn.out
      have hns270_1 := zx.out
      have hns270_2 := zl.out
      have hms270_0 := yb.out
      have hms270_1 := yc.out
      have hms270_2 := yd.out
      have hs271 : w269.cell? ⟨zf, 1, none⟩ = some (.string (⟨#[]⟩ : ByteArray)) := (blk_cell zv.out 1).trans rfl
      have hfs271 := blk_frozen zv.out 1
      have hns271_0 := zn.out
      have hns271_1 := zx.out
      have hns271_2 := zl.out
      have hms271_0 := yb.out
      have hms271_1 := yc.out
      have hms271_2 := yd.out
      have hs272 : w269.cell? ⟨zf, 2, none⟩ = some (.slice none 0 0) := (blk_cell zv.out 2).trans rfl
      have hfs272 := blk_frozen zv.out 2
      have hns272_0 := zn.out
      have hns272_1 := zx.out
      have hns272_2 := zl.out
      have hms272_0 := yb.out
      have hms272_1 := yc.out
      have hms272_2 := yd.out
      refine skip_ (w1 := ?_) (by rfl) rfl ?_ ?_
      rotate_left
      exact qzz47_
      refine hK.out _ _ ⟨((cell_far (p := ⟨zf, _, none⟩) zn.out _).trans (((cell_far (p := ⟨zf, _, none⟩) zn.out _).trans (((cell_far (p := ⟨zf, _, none⟩) zn.out _).trans (zm.1)))))), ((cell_far (p := ⟨zf, _, none⟩) zn.out _).trans (((cell_far (p := ⟨zf, _, none⟩) zn.out _).trans (((cell_far (p := ⟨zf, _, none⟩) zn.out _).trans (zm.2.1)))))), ((cell_far (p := ⟨zf, _, none⟩) zl.out _).trans (((cell_far (p := ⟨zf, _, none⟩) zl.out _).trans (((cell_far (p := ⟨zf, _, none⟩) zl.out _).trans (zm.2.2.1)))))), ((cell_far (p := ⟨zf, _, none⟩) zl.out _).trans (((cell_far (p := ⟨zf, _, none⟩) zl.out _).trans (((cell_far (p := ⟨zf, _, none⟩) zl.out _).trans (zm.2.2.2.1)))))), ((cell_far (p := ⟨zf, _, none⟩) zl.out _).trans (((cell_far (p := ⟨zf, _, none⟩) zl.out _).trans (((cell_far (p := ⟨zf, _, none⟩) zl.out _).trans (zm.2.2.2.2.1)))))), ((cell_far (p := ⟨zf, _, none⟩) (qzz7_) _).trans (((cell_far (p := ⟨zf, _, none⟩) (qzz7_) _).trans (((cell_far (p := ⟨zf, _, none⟩) (qzz7_) _).trans (zm.2.2.2.2.2.1)))))), ((cell_far (p := ⟨zf, _, none⟩) (qzz6_) _).trans (((cell_far (p := ⟨zf, _, none⟩) (qzz6_) _).trans (((cell_far (p := ⟨zf, _, none⟩) (qzz6_) _).trans (zm.2.2.2.2.2.2.1)))))), ((cell_far (p := ⟨zf, _, none⟩) (qzz5_) _).trans (((cell_far (p := ⟨zf, _, none⟩) (qzz5_) _).trans (((cell_far (p := ⟨zf, _, none⟩) (qzz5_) _).trans (zm.2.2.2.2.2.2.2.1)))))), ((cell_far (p := ⟨zf, _, none⟩) (qzz4_) _).trans (((cell_far (p := ⟨zf, _, none⟩) (qzz4_) _).trans (((cell_far (p := ⟨zf, _, none⟩) (qzz4_) _).trans (zm.2.2.2.2.2.2.2.2))))))⟩ (fun zm => ?_)
      clear hK K
      refine done_ (done_of HT_.out qk_) ?_
      have hnb273 := yb.out
      have hnc273 := zn.out
      have hnb274 := yc.out
      have hnc274 := zx.out
      have hnb275 := yd.out
      have hnc275 := zl.out
      have hcz276_0 : w269.cell? ⟨zf, 0, none⟩ = some (.int .i64 0) := (blk_cell zv.out 0).trans rfl
      have hcz276_1 : w269.cell? ⟨zf, 1, none⟩ = some (.string (⟨#[]⟩ : ByteArray)) := (blk_cell zv.out 1).trans rfl
      have hcz276_2 : w269.cell? ⟨zf, 2, none⟩ = some (.slice none 0 0) := (blk_cell zv.out 2).trans rfl
      have hfz276_0 := blk_frozen zv.out 0
      have hfz276_1 := blk_frozen zv.out 1
      have hfz276_2 := blk_frozen zv.out 2
      try go_wp2
      go_roundg k2
      case measure => have := HJ2.out; have := HK2.out; omega
      case rel => exact ⟨(wrap64 (zo + 2)), (qzz29_), H', ⟨by have := HJ2.out; have := HK2.out; omega⟩, ⟨qzz21_⟩, ⟨qzz20_⟩, ⟨qzz19_⟩, ⟨qzz17_⟩⟩
     rw [if_pos c199] at H
     have c199b0 : (((rd_T45 zb (rd ((rd_T45 zb zc).f2) zo)).f0) == 4) = true := beq_iff_eq.mpr c199
     have c199b1 : (((rd_T45 zb (rd ((rd_T45 zb zc).f2) zo)).f0) != 4) = false := bne_eq_false_iff_eq.mpr c199
     clear c199
     by_cases c200 : ((rd_T45 zb (rd ((rd_T45 zb zc).f2) zo)).f1).toList = zk.toList
     rotate_left
     ·
      rw [if_neg c200] at H
      have c200b0 : (((rd_T45 zb (rd ((rd_T45 zb zc).f2) zo)).f1).toList == zk.toList) = false := beq_eq_false_iff_ne.mpr c200
      have c200b1 : (((rd_T45 zb (rd ((rd_T45 zb zc).f2) zo)).f1).toList != zk.toList) = true := bne_iff_ne.mpr c200
      have H' := qA_ H
      clear H
      have hnb251 := zy.out
      have hnc251 := zt.out
      have hnb252 := zz.out
      have hnc252 := zs.out
      have hcz253_0 : wr.cell? ⟨zh, 0, none⟩ = some (.int .i64 ((rd_T45 zb zc).f0)) := (blk_cell zi.out 0).trans rfl
      have hcz253_1 : wr.cell? ⟨zh, 1, none⟩ = some (.string ((rd_T45 zb zc).f1)) := (blk_cell zi.out 1).trans rfl
      have hcz253_2 : wr.cell? ⟨zh, 2, none⟩ = some (.slice ym ((rd_T45 zb zc).f2).length zu) := (blk_cell zi.out 2).trans rfl
      have hfz253_0 := blk_frozen zi.out 0
      have hfz253_1 := blk_frozen zi.out 1
      have hfz253_2 := blk_frozen zi.out 2
      try go_wp2
      have n0_ := qA_ (blk_drew zd.out)
      have n1_ := qA_ (blk_drew za.out)
      have n2_ := qA_ (blk_drew zi.out)
      have n3_ := qA_ (below_drew1 HB.out)
      replace zd := n0_
      replace za := n1_
      replace zi := n2_
      replace HB := n3_
      clear n0_ n1_ n2_ n3_
      have p130 : 0 ≤ (zo : Int) := of_decide_eq_true (qzz13_)
      have q130 : zo < (((rd_T45 zb zc).f2).length : Int) := of_decide_eq_true (qzz13_)
      obtain ⟨yl, e130, hx130_0⟩ := Kd.at_int yn.out zo p130 q130
      have yi := hx130_0
      cases e130
      replace hx130_0 := (HB.out.cell (World.block_lt_of_cell? w _ hx130_0)).trans hx130_0
      replace p130 := eq_true p130
      replace q130 := eq_true q130
      have p131 : 0 ≤ ((rd ((rd_T45 zb zc).f2) zo) : Int) := of_decide_eq_true (qzz13_)
      have q131 : (rd ((rd_T45 zb zc).f2) zo) < (zb.length : Int) := of_decide_eq_true (qzz13_)
      obtain ⟨ad131, yq, yr, e131, hx131_0, hx131_1, hx131_2, hl131_2, hi131_2⟩ := at_T45 ys.out (rd ((rd_T45 zb zc).f2) zo) p131 q131
      have KX131_2 := qA_ hx131_2
      have yf := hx131_2
      have yg := hx131_1
      have yh := hx131_0
      obtain rfl : zq = ad131 := (by injection e131)
      replace hx131_0 := (HB.out.cell (World.block_lt_of_cell? w _ hx131_0)).trans hx131_0
      replace hx131_1 := (HB.out.cell (World.block_lt_of_cell? w _ hx131_1)).trans hx131_1
      replace hx131_2 := (HB.out.cell (World.block_lt_of_cell? w _ hx131_2)).trans hx131_2
      have yu := qA_ hi131_2
      have HC131_2 := qA_ hl131_2
      clear hi131_2 hl131_2
      replace p131 := eq_true p131
      replace q131 := eq_true q131
      refine start_ (n := 11) (S := fun w' => w'.cell? ⟨zg, 0, none⟩ = some (.slice (some zq) zb.length zp) ∧ w'.cell? ⟨zg, 1, none⟩ = some (.int .i64 zc) ∧ w'.cell? ⟨zh, 0, none⟩ = some (.int .i64 ((rd_T45 zb zc).f0)) ∧ w'.cell? ⟨zh, 1, none⟩ = some (.string ((rd_T45 zb zc).f1)) ∧ w'.cell? ⟨zh, 2, none⟩ = some (.slice (some yl) ((rd_T45 zb zc).f2).length zu) ∧ w'.cell? (yl.add (zo).toNat) = some (.int .i64 (rd ((rd_T45 zb zc).f2) zo)) ∧ w'.cell? (zq.add (((rd ((rd_T45 zb zc).f2) zo)).toNat * 3)) = some (.int .i64 ((rd_T45 zb (rd ((rd_T45 zb zc).f2) zo)).f0)) ∧ w'.cell? ⟨(zq.add (((rd ((rd_T45 zb zc).f2) zo)).toNat * 3)).block, (zq.add (((rd ((rd_T45 zb zc).f2) zo)).toNat * 3)).off + 1, none⟩ = some (.string ((rd_T45 zb (rd ((rd_T45 zb zc).f2) zo)).f1)) ∧ w'.cell? ⟨(zq.add (((rd ((rd_T45 zb zc).f2) zo)).toNat * 3)).block, (zq.add (((rd ((rd_T45 zb zc).f2) zo)).toNat * 3)).off + 2, none⟩ = some (.slice yq ((rd_T45 zb (rd ((rd_T45 zb zc).f2) zo)).f2).length yr)) (ds := []) #[false, false, false, false, false, false, false, false, false, false, false] qk_ rfl rfl ⟨(blk_cell zd.out 0).trans rfl, (blk_cell zd.out 1).trans rfl, (blk_cell zi.out 0).trans rfl, (blk_cell zi.out 1).trans rfl, (blk_cell zi.out 2).trans rfl, ((HB.out.cell (World.block_lt_of_cell? w _ yi)).trans yi), ((HB.out.cell (World.block_lt_of_cell? w _ yh)).trans yh), ((HB.out.cell (World.block_lt_of_cell? w _ yg)).trans yg), ((HB.out.cell (World.block_lt_of_cell? w _ yf)).trans yf)⟩ (fun zm => ?_); refine with_tabW grommetlaw16_PathOne.tab19 grommetlaw16_PathOne.bits19 (fun HT_ HW_ => ?_)
      generalize wr.drew = w254 at zd za zi HB yu hx130_0 hx131_0 hx131_1 hx131_2 zm ⊢
      refine pure_ (i := 0) (N := some 106) (v := ?_) (a' := ?_) #[true, false, false, false, false, false, false, false, false, false, false] rfl rfl (any_of HT_.out qk_) (fun _ _ _ h => h) (Or.inl ⟨by rfl, ?_⟩) ?_ ?_
      rotate_left
      exact qzz45_
      rotate_left
      exact qzz44_
      refine pure_ (i := 2) (N := some 108) (v := ?_) (a' := ?_) #[true, false, true, false, false, false, false, false, false, false, false] rfl rfl (any_of HT_.out qk_) (fun _ _ _ h => h) (Or.inl ⟨by rfl, ?_⟩) ?_ ?_
      rotate_left
      exact qzz45_
      rotate_left
      exact qzz44_
      refine pure_ (i := 4) (N := some 110) (v := ?_) (a' := ?_) #[true, false, true, false, true, false, false, false, false, false, false] rfl rfl (any_of HT_.out qk_) (fun _ _ _ h => h) (Or.inl ⟨by rfl, ?_⟩) ?_ ?_
      rotate_left
      exact qzz45_
      rotate_left
      exact qzz44_
      refine take_ (i := 1) (N := some 107) (v := ?_) (a' := ?_) #[true, true, true, false, true, false, false, false, false, false, false] rfl rfl (take_ofW HT_.out HW_.out qk_) (fun _ _ _ h => h) (Or.inl ⟨by rfl, ?_⟩) zm ?_ ?_
      rotate_left
      exact qzz46_
      rotate_left
      exact qzz44_
      refine take_ (i := 3) (N := some 109) (v := ?_) (a' := ?_) #[true, true, true, true, true, false, false, false, false, false, false] rfl rfl (take_ofW HT_.out HW_.out qk_) (fun _ _ _ h => h) (Or.inl ⟨by rfl, ?_⟩) zm ?_ ?_
      rotate_left
      exact qzz46_
      rotate_left
      exact qzz44_
      refine pure_ (i := 5) (N := some 111) (v := ?_) (a' := ?_) #[true, true, true, true, true, true, false, false, false, false, false] rfl rfl (any_of HT_.out qk_) (fun _ _ _ h => h) (Or.inl ⟨by rfl, ?_⟩) ?_ ?_
      rotate_left
      exact qzz45_
      rotate_left
      exact qzz44_
      refine take_ (i := 6) (N := some 112) (v := ?_) (a' := ?_) #[true, true, true, true, true, true, true, false, false, false, false] rfl rfl (take_ofW HT_.out HW_.out qk_) (fun _ _ _ h => h) (Or.inl ⟨by rfl, ?_⟩) zm ?_ ?_
      rotate_left
      exact qzz46_
      rotate_left
      exact qzz44_
      refine pure_ (i := 7) (N := some 113) (v := ?_) (a' := ?_) #[true, true, true, true, true, true, true, true, false, false, false] rfl rfl (any_of HT_.out qk_) (fun _ _ _ h => h) (Or.inl ⟨by rfl, ?_⟩) ?_ ?_
      rotate_left
      exact qzz45_
      rotate_left
      exact qzz44_
      refine take_ (i := 8) (N := some 114) (v := ?_) (a' := ?_) #[true, true, true, true, true, true, true, true, true, false, false] rfl rfl (take_ofW HT_.out HW_.out qk_) (fun _ _ _ h => h) (Or.inl ⟨by rfl, ?_⟩) zm ?_ ?_
      rotate_left
      exact qzz46_
      rotate_left
      exact qzz44_
      refine one_ (i := 9) (N := some 11) #[true, true, true, true, true, true, true, true, true, true, false] rfl rfl (one_of HT_.out qk_) (by decide) (fun K hK => ?_)
      refine box_step ?hg (N := 11) ?hd (cs := #[.int .i64 0, .string (⟨#[]⟩ : ByteArray), .slice none 0 0]) (t := 45) ?hr ?_; (case hd => rfl); (case hg => rfl); (case hr => first | (go_simp; done) | (go_simp; rfl))
      intro zf hg w255 hbox hb
      have n0_ := qA_ (blk_below (g := zg) (o := .cells #[.slice (some zq) zb.length zp, .int .i64 zc] 24 (0, 0)) (qzz3_) hb)
      have n1_ := qA_ (blk_below (g := ze) (o := .cells #[.string zk, .int .i64 zj, .bool false] 58 (0, 0)) (qzz1_) hb)
      have n2_ := qA_ (blk_below (g := zh) (o := .cells #[.int .i64 ((rd_T45 zb zc).f0), .string ((rd_T45 zb zc).f1), .slice (some yl) ((rd_T45 zb zc).f2).length zu] 45 (0, 0)) (qzz16_) hb)
      have n3_ := qA_ (below_step (qzz8_) hb)
      have n4_ := qA_ (hbox)
      have n5_ := qA_ ((by rw [hg]; exact (below_size (qzz8_)) : w.heap.size ≤ zf))
      have n6_ := qA_ ((by rw [hg]; exact (below_size (qzz8_)) : w.heap.size ≤ zf))
      have n7_ := qA_ ((by rw [hg]; exact Nat.ne_of_lt (blk_lt (g := zg) (o := .cells #[.slice (some zq) zb.length zp, .int .i64 zc] 24 (0, 0)) (qzz3_)) : zg ≠ zf))
      have n8_ := qA_ ((by rw [hg]; exact Nat.ne_of_gt (blk_lt (g := zg) (o := .cells #[.slice (some zq) zb.length zp, .int .i64 zc] 24 (0, 0)) (qzz3_)) : zf ≠ zg))
      have n9_ := qA_ ((by rw [hg]; exact Nat.ne_of_lt (blk_lt (g := ze) (o := .cells #[.string zk, .int .i64 zj, .bool false] 58 (0, 0)) (qzz1_)) : ze ≠ zf))
      have n10_ := qA_ ((by rw [hg]; exact Nat.ne_of_gt (blk_lt (g := ze) (o := .cells #[.string zk, .int .i64 zj, .bool false] 58 (0, 0)) (qzz1_)) : zf ≠ ze))
      have n11_ := qA_ ((by rw [hg]; exact Nat.ne_of_lt (blk_lt (g := zh) (o := .cells #[.int .i64 ((rd_T45 zb zc).f0), .string ((rd_T45 zb zc).f1), .slice (some yl) ((rd_T45 zb zc).f2).length zu] 45 (0, 0)) (qzz16_)) : zh ≠ zf))
      have n12_ := qA_ ((by rw [hg]; exact Nat.ne_of_gt (blk_lt (g := zh) (o := .cells #[.int .i64 ((rd_T45 zb zc).f0), .string ((rd_T45 zb zc).f1), .slice (some yl) ((rd_T45 zb zc).f2).length zu] 45 (0, 0)) (qzz16_)) : zf ≠ zh))
      replace zd := n0_
      replace za := n1_
      replace zi := n2_
      replace HB := n3_
      have zv := n4_
      have yo := n5_
      have GE132 := n6_
      have zn := n7_
      have yb := n8_
      have zx := n9_
      have yc := n10_
      have zl := n11_
      have yd := n12_
      clear n0_ n1_ n2_ n3_ n4_ n5_ n6_ n7_ n8_ n9_ n10_ n11_ n12_
      clear hb hbox hg
      refine hK.out _ _ ⟨(blk_cell zd.out 0).trans rfl, (blk_cell zd.out 1).trans rfl, (blk_cell zi.out 0).trans rfl, (blk_cell zi.out 1).trans rfl, (blk_cell zi.out 2).trans rfl, ((HB.out.cell (World.block_lt_of_cell? w _ yi)).trans yi), ((HB.out.cell (World.block_lt_of_cell? w _ yh)).trans yh), ((HB.out.cell (World.block_lt_of_cell? w _ yg)).trans yg), ((HB.out.cell (World.block_lt_of_cell? w _ yf)).trans yf)⟩ (fun zm => ?_)
      clear hK K
      refine norm_ (a' := ?_) ?_ ?_
      rotate_left
      ·
       show Act.put _ (some 11) _ = _
       simp only [Act.put, List.setIfInBounds_toArray, List.set_cons_zero, List.set_cons_succ, i64_w, i32_w]
       rfl
      refine one_ (i := 10) (N := none) #[true, true, true, true, true, true, true, true, true, true, true] rfl rfl (one_of HT_.out qk_) (by decide) (fun K hK => ?_)
      have hs256 : w255.cell? ⟨zf, 0, none⟩ = some (.int .i64 0) := (blk_cell zv.out 0).trans rfl
      have hfs256 := blk_frozen zv.out 0
      have hns256_0 := zn.out
      have hns256_1 := zx.out
      have hns256_2 := zl.out
      have hms256_0 := yb.out
      have hms256_1 := yc.out
      have hms256_2 := yd.out
      have hs257 : w255.cell? ⟨zf, 1, none⟩ = some (.string (⟨#[]⟩ : ByteArray)) := (blk_cell zv.out 1).trans rfl
      have hfs257 := blk_frozen zv.out 1
      have hns257_0 := zn.out
      have hns257_1 := zx.out
      have hns257_2 := zl.out
      have hms257_0 := yb.out
      have hms257_1 := yc.out
      have hms257_2 := yd.out
      have hs258 : w255.cell? ⟨zf, 2, none⟩ = some (.slice none 0 0) := (blk_cell zv.out 2).trans rfl
      have hfs258 := blk_frozen zv.out 2
      have hns258_0 := zn.out
      have hns258_1 := zx.out
      have hns258_2 := zl.out
      have hms258_0 := yb.out
      have hms258_1 := yc.out
      have hms258_2 := yd.out
      refine skip_ (w1 := ?_) (by rfl) rfl ?_ ?_
      rotate_left
      exact qzz47_
      refine hK.out _ _ ⟨((cell_far (p := ⟨zf, _, none⟩) zn.out _).trans (((cell_far (p := ⟨zf, _, none⟩) zn.out _).trans (((cell_far (p := ⟨zf, _, none⟩) zn.out _).trans (zm.1)))))), ((cell_far (p := ⟨zf, _, none⟩) zn.out _).trans (((cell_far (p := ⟨zf, _, none⟩) zn.out _).trans (((cell_far (p := ⟨zf, _, none⟩) zn.out _).trans (zm.2.1)))))), ((cell_far (p := ⟨zf, _, none⟩) zl.out _).trans (((cell_far (p := ⟨zf, _, none⟩) zl.out _).trans (((cell_far (p := ⟨zf, _, none⟩) zl.out _).trans (zm.2.2.1)))))), ((cell_far (p := ⟨zf, _, none⟩) zl.out _).trans (((cell_far (p := ⟨zf, _, none⟩) zl.out _).trans (((cell_far (p := ⟨zf, _, none⟩) zl.out _).trans (zm.2.2.2.1)))))), ((cell_far (p := ⟨zf, _, none⟩) zl.out _).trans (((cell_far (p := ⟨zf, _, none⟩) zl.out _).trans (((cell_far (p := ⟨zf, _, none⟩) zl.out _).trans (zm.2.2.2.2.1)))))), ((cell_far (p := ⟨zf, _, none⟩) (qzz7_) _).trans (((cell_far (p := ⟨zf, _, none⟩) (qzz7_) _).trans (((cell_far (p := ⟨zf, _, none⟩) (qzz7_) _).trans (zm.2.2.2.2.2.1)))))), ((cell_far (p := ⟨zf, _, none⟩) (qzz6_) _).trans (((cell_far (p := ⟨zf, _, none⟩) (qzz6_) _).trans (((cell_far (p := ⟨zf, _, none⟩) (qzz6_) _).trans (zm.2.2.2.2.2.2.1)))))), ((cell_far (p := ⟨zf, _, none⟩) (qzz5_) _).trans (((cell_far (p := ⟨zf, _, none⟩) (qzz5_) _).trans (((cell_far (p := ⟨zf, _, none⟩) (qzz5_) _).trans (zm.2.2.2.2.2.2.2.1)))))), ((cell_far (p := ⟨zf, _, none⟩) (qzz4_) _).trans (((cell_far (p := ⟨zf, _, none⟩) (qzz4_) _).trans (((cell_far (p := ⟨zf, _, none⟩) (qzz4_) _).trans (zm.2.2.2.2.2.2.2.2))))))⟩ (fun zm => ?_)
      clear hK K
      refine done_ (done_of HT_.out qk_) ?_
      have hnb259 := yb.out
      have hnc259 := zn.out
      have hnb260 := yc.out
      have hnc260 := zx.out
      have hnb261 := yd.out
      have hnc261 := zl.out
      have hcz262_0 : w255.cell? ⟨zf, 0, none⟩ = some (.int .i64 0) := (blk_cell zv.out 0).trans rfl
      have hcz262_1 : w255.cell? ⟨zf, 1, none⟩ = some (.string (⟨#[]⟩ : ByteArray)) := (blk_cell zv.out 1).trans rfl
      have hcz262_2 : w255.cell? ⟨zf, 2, none⟩ = some (.slice none 0 0) := (blk_cell zv.out 2).trans rfl
      have hfz262_0 := blk_frozen zv.out 0
      have hfz262_1 := blk_frozen zv.out 1
      have hfz262_2 := blk_frozen zv.out 2
      have hnb263 := yk.out
      have hnc263 := yj.out
      have hcz264_0 : w255.cell? ⟨ze, 0, none⟩ = some (.string zk) := (blk_cell za.out 0).trans rfl
      have hcz264_1 : w255.cell? ⟨ze, 1, none⟩ = some (.int .i64 zj) := (blk_cell za.out 1).trans rfl
      have hcz264_2 : w255.cell? ⟨ze, 2, none⟩ = some (.bool false) := (blk_cell za.out 2).trans rfl
      have hfz264_0 := blk_frozen za.out 0
      have hfz264_1 := blk_frozen za.out 1
      have hfz264_2 := blk_frozen za.out 2
      try go_wp2
      go_roundg k2
      case measure => have := HJ2.out; have := HK2.out; omega
      case rel => exact ⟨(wrap64 (zo + 2)), (qzz29_), H', ⟨by have := HJ2.out; have := HK2.out; omega⟩, ⟨qzz21_⟩, ⟨qzz20_⟩, ⟨qzz19_⟩, ⟨qzz17_⟩⟩
     rw [if_pos c200] at H
     have c200b0 : (((rd_T45 zb (rd ((rd_T45 zb zc).f2) zo)).f1).toList == zk.toList) = true := beq_iff_eq.mpr c200
     have c200b1 : (((rd_T45 zb (rd ((rd_T45 zb zc).f2) zo)).f1).toList != zk.toList) = false := bne_eq_false_iff_eq.mpr c200
     clear c200
     by_cases c201 : t113 = 0
     rotate_left
     ·
      rw [if_neg c201] at H
      have c201b0 : (t113 == 0) = false := beq_eq_false_iff_ne.mpr c201
      have c201b1 : (t113 != 0) = true := bne_iff_ne.mpr c201
      obtain rfl := Option.some.inj H
      have hnb237 := zy.out
      have hnc237 := zt.out
      have hnb238 := zz.out
      have hnc238 := zs.out
      have hcz239_0 : wr.cell? ⟨zh, 0, none⟩ = some (.int .i64 ((rd_T45 zb zc).f0)) := (blk_cell zi.out 0).trans rfl
      have hcz239_1 : wr.cell? ⟨zh, 1, none⟩ = some (.string ((rd_T45 zb zc).f1)) := (blk_cell zi.out 1).trans rfl
      have hcz239_2 : wr.cell? ⟨zh, 2, none⟩ = some (.slice ym ((rd_T45 zb zc).f2).length zu) := (blk_cell zi.out 2).trans rfl
      have hfz239_0 := blk_frozen zi.out 0
      have hfz239_1 := blk_frozen zi.out 1
      have hfz239_2 := blk_frozen zi.out 2
      try go_wp2
      have n0_ := qA_ (blk_drew zd.out)
      have n1_ := qA_ (blk_drew za.out)
      have n2_ := qA_ (blk_drew zi.out)
      have n3_ := qA_ (below_drew1 HB.out)
      replace zd := n0_
      replace za := n1_
      replace zi := n2_
      replace HB := n3_
      clear n0_ n1_ n2_ n3_
      have p130 : 0 ≤ (zo : Int) := of_decide_eq_true (qzz13_)
      have q130 : zo < (((rd_T45 zb zc).f2).length : Int) := of_decide_eq_true (qzz13_)
      obtain ⟨yl, e130, hx130_0⟩ := Kd.at_int yn.out zo p130 q130
      have yi := hx130_0
      cases e130
      replace hx130_0 := (HB.out.cell (World.block_lt_of_cell? w _ hx130_0)).trans hx130_0
      replace p130 := eq_true p130
      replace q130 := eq_true q130
      have p131 : 0 ≤ ((rd ((rd_T45 zb zc).f2) zo) : Int) := of_decide_eq_true (qzz13_)
      have q131 : (rd ((rd_T45 zb zc).f2) zo) < (zb.length : Int) := of_decide_eq_true (qzz13_)
      obtain ⟨ad131, yq, yr, e131, hx131_0, hx131_1, hx131_2, hl131_2, hi131_2⟩ := at_T45 ys.out (rd ((rd_T45 zb zc).f2) zo) p131 q131
      have KX131_2 := qA_ hx131_2
      have yf := hx131_2
      have yg := hx131_1
      have yh := hx131_0
      obtain rfl : zq = ad131 := (by injection e131)
      replace hx131_0 := (HB.out.cell (World.block_lt_of_cell? w _ hx131_0)).trans hx131_0
      replace hx131_1 := (HB.out.cell (World.block_lt_of_cell? w _ hx131_1)).trans hx131_1
      replace hx131_2 := (HB.out.cell (World.block_lt_of_cell? w _ hx131_2)).trans hx131_2
      have yu := qA_ hi131_2
      have HC131_2 := qA_ hl131_2
      clear hi131_2 hl131_2
      replace p131 := eq_true p131
      replace q131 := eq_true q131
      refine start_ (n := 11) (S := fun w' => w'.cell? ⟨zg, 0, none⟩ = some (.slice (some zq) zb.length zp) ∧ w'.cell? ⟨zg, 1, none⟩ = some (.int .i64 zc) ∧ w'.cell? ⟨zh, 0, none⟩ = some (.int .i64 ((rd_T45 zb zc).f0)) ∧ w'.cell? ⟨zh, 1, none⟩ = some (.string ((rd_T45 zb zc).f1)) ∧ w'.cell? ⟨zh, 2, none⟩ = some (.slice (some yl) ((rd_T45 zb zc).f2).length zu) ∧ w'.cell? (yl.add (zo).toNat) = some (.int .i64 (rd ((rd_T45 zb zc).f2) zo)) ∧ w'.cell? (zq.add (((rd ((rd_T45 zb zc).f2) zo)).toNat * 3)) = some (.int .i64 ((rd_T45 zb (rd ((rd_T45 zb zc).f2) zo)).f0)) ∧ w'.cell? ⟨(zq.add (((rd ((rd_T45 zb zc).f2) zo)).toNat * 3)).block, (zq.add (((rd ((rd_T45 zb zc).f2) zo)).toNat * 3)).off + 1, none⟩ = some (.string ((rd_T45 zb (rd ((rd_T45 zb zc).f2) zo)).f1)) ∧ w'.cell? ⟨(zq.add (((rd ((rd_T45 zb zc).f2) zo)).toNat * 3)).block, (zq.add (((rd ((rd_T45 zb zc).f2) zo)).toNat * 3)).off + 2, none⟩ = some (.slice yq ((rd_T45 zb (rd ((rd_T45 zb zc).f2) zo)).f2).length yr)) (ds := []) #[false, false, false, false, false, false, false, false, false, false, false] qk_ rfl rfl ⟨(blk_cell zd.out 0).trans rfl, (blk_cell zd.out 1).trans rfl, (blk_cell zi.out 0).trans rfl, (blk_cell zi.out 1).trans rfl, (blk_cell zi.out 2).trans rfl, ((HB.out.cell (World.block_lt_of_cell? w _ yi)).trans yi), ((HB.out.cell (World.block_lt_of_cell? w _ yh)).trans yh), ((HB.out.cell (World.block_lt_of_cell? w _ yg)).trans yg), ((HB.out.cell (World.block_lt_of_cell? w _ yf)).trans yf)⟩ (fun zm => ?_); refine with_tabW grommetlaw16_PathOne.tab19 grommetlaw16_PathOne.bits19 (fun HT_ HW_ => ?_)
      generalize wr.drew = w240 at zd za zi HB yu hx130_0 hx131_0 hx131_1 hx131_2 zm ⊢
      refine pure_ (i := 0) (N := some 106) (v := ?_) (a' := ?_) #[true, false, false, false, false, false, false, false, false, false, false] rfl rfl (any_of HT_.out qk_) (fun _ _ _ h => h) (Or.inl ⟨by rfl, ?_⟩) ?_ ?_
      rotate_left
      exact qzz45_
      rotate_left
      exact qzz44_
      refine pure_ (i := 2) (N := some 108) (v := ?_) (a' := ?_) #[true, false, true, false, false, false, false, false, false, false, false] rfl rfl (any_of HT_.out qk_) (fun _ _ _ h => h) (Or.inl ⟨by rfl, ?_⟩) ?_ ?_
      rotate_left
      exact qzz45_
      rotate_left
      exact qzz44_
      refine pure_ (i := 4) (N := some 110) (v := ?_) (a' := ?_) #[true, false, true, false, true, false, false, false, false, false, false] rfl rfl (any_of HT_.out qk_) (fun _ _ _ h => h) (Or.inl ⟨by rfl, ?_⟩) ?_ ?_
      rotate_left
      exact qzz45_
      rotate_left
      exact qzz44_
      refine take_ (i := 1) (N := some 107) (v := ?_) (a' := ?_) #[true, true, true, false, true, false, false, false, false, false, false] rfl rfl (take_ofW HT_.out HW_.out qk_) (fun _ _ _ h => h) (Or.inl ⟨by rfl, ?_⟩) zm ?_ ?_
      rotate_left
      exact qzz46_
      rotate_left
      exact qzz44_
      refine take_ (i := 3) (N := some 109) (v := ?_) (a' := ?_) #[true, true, true, true, true, false, false, false, false, false, false] rfl rfl (take_ofW HT_.out HW_.out qk_) (fun _ _ _ h => h) (Or.inl ⟨by rfl, ?_⟩) zm ?_ ?_
      rotate_left
      exact qzz46_
      rotate_left
      exact qzz44_
      refine pure_ (i := 5) (N := some 111) (v := ?_) (a' := ?_) #[true, true, true, true, true, true, false, false, false, false, false] rfl rfl (any_of HT_.out qk_) (fun _ _ _ h => h) (Or.inl ⟨by rfl, ?_⟩) ?_ ?_
      rotate_left
      exact qzz45_
      rotate_left
      exact qzz44_
      refine take_ (i := 6) (N := some 112) (v := ?_) (a' := ?_) #[true, true, true, true, true, true, true, false, false, false, false] rfl rfl (take_ofW HT_.out HW_.out qk_) (fun _ _ _ h => h) (Or.inl ⟨by rfl, ?_⟩) zm ?_ ?_
      rotate_left
      exact qzz46_
      rotate_left
      exact qzz44_
      refine pure_ (i := 7) (N := some 113) (v := ?_) (a' := ?_) #[true, true, true, true, true, true, true, true, false, false, false] rfl rfl (any_of HT_.out qk_) (fun _ _ _ h => h) (Or.inl ⟨by rfl, ?_⟩) ?_ ?_
      rotate_left
      exact qzz45_
      rotate_left
      exact qzz44_
      refine take_ (i := 8) (N := some 114) (v := ?_) (a' := ?_) #[true, true, true, true, true, true, true, true, true, false, false] rfl rfl (take_ofW HT_.out HW_.out qk_) (fun _ _ _ h => h) (Or.inl ⟨by rfl, ?_⟩) zm ?_ ?_
      rotate_left
      exact qzz46_
      rotate_left
      exact qzz44_
      refine one_ (i := 9) (N := some 11) #[true, true, true, true, true, true, true, true, true, true, false] rfl rfl (one_of HT_.out qk_) (by decide) (fun K hK => ?_)
      refine box_step ?hg (N := 11) ?hd (cs := #[.int .i64 0, .string (⟨#[]⟩ : ByteArray), .slice none 0 0]) (t := 45) ?hr ?_; (case hd => rfl); (case hg => rfl); (case hr => first | (go_simp; done) | (go_simp; rfl))
      intro zf hg w241 hbox hb
      have n0_ := qA_ (blk_below (g := zg) (o := .cells #[.slice (some zq) zb.length zp, .int .i64 zc] 24 (0, 0)) (qzz3_) hb)
      have n1_ := qA_ (blk_below (g := ze) (o := .cells #[.string zk, .int .i64 zj, .bool false] 58 (0, 0)) (qzz1_) hb)
      have n2_ := qA_ (blk_below (g := zh) (o := .cells #[.int .i64 ((rd_T45 zb zc).f0), .string ((rd_T45 zb zc).f1), .slice (some yl) ((rd_T45 zb zc).f2).length zu] 45 (0, 0)) (qzz16_) hb)
      have n3_ := qA_ (below_step (qzz8_) hb)
      have n4_ := qA_ (hbox)
      have n5_ := qA_ ((by rw [hg]; exact (below_size (qzz8_)) : w.heap.size ≤ zf))
      have n6_ := qA_ ((by rw [hg]; exact (below_size (qzz8_)) : w.heap.size ≤ zf))
      have n7_ := qA_ ((by rw [hg]; exact Nat.ne_of_lt (blk_lt (g := zg) (o := .cells #[.slice (some zq) zb.length zp, .int .i64 zc] 24 (0, 0)) (qzz3_)) : zg ≠ zf))
      have n8_ := qA_ ((by rw [hg]; exact Nat.ne_of_gt (blk_lt (g := zg) (o := .cells #[.slice (some zq) zb.length zp, .int .i64 zc] 24 (0, 0)) (qzz3_)) : zf ≠ zg))
      have n9_ := qA_ ((by rw [hg]; exact Nat.ne_of_lt (blk_lt (g := ze) (o := .cells #[.string zk, .int .i64 zj, .bool false] 58 (0, 0)) (qzz1_)) : ze ≠ zf))
      have n10_ := qA_ ((by rw [hg]; exact Nat.ne_of_gt (blk_lt (g := ze) (o := .cells #[.string zk, .int .i64 zj, .bool false] 58 (0, 0)) (qzz1_)) : zf ≠ ze))
      have n11_ := qA_ ((by rw [hg]; exact Nat.ne_of_lt (blk_lt (g := zh) (o := .cells #[.int .i64 ((rd_T45 zb zc).f0), .string ((rd_T45 zb zc).f1), .slice (some yl) ((rd_T45 zb zc).f2).length zu] 45 (0, 0)) (qzz16_)) : zh ≠ zf))
      have n12_ := qA_ ((by rw [hg]; exact Nat.ne_of_gt (blk_lt (g := zh) (o := .cells #[.int .i64 ((rd_T45 zb zc).f0), .string ((rd_T45 zb zc).f1), .slice (some yl) ((rd_T45 zb zc).f2).length zu] 45 (0, 0)) (qzz16_)) : zf ≠ zh))
      replace zd := n0_
      replace za := n1_
      replace zi := n2_
      replace HB := n3_
      have zv := n4_
      have yo := n5_
      have GE132 := n6_
      have zn := n7_
      have yb := n8_
      have zx := n9_
      have yc := n10_
      have zl := n11_
      have yd := n12_
      clear n0_ n1_ n2_ n3_ n4_ n5_ n6_ n7_ n8_ n9_ n10_ n11_ n12_
      clear hb hbox hg
      refine hK.out _ _ ⟨(blk_cell zd.out 0).trans rfl, (blk_cell zd.out 1).trans rfl, (blk_cell zi.out 0).trans rfl, (blk_cell zi.out 1).trans rfl, (blk_cell zi.out 2).trans rfl, ((HB.out.cell (World.block_lt_of_cell? w _ yi)).trans yi), ((HB.out.cell (World.block_lt_of_cell? w _ yh)).trans yh), ((HB.out.cell (World.block_lt_of_cell? w _ yg)).trans yg), ((HB.out.cell (World.block_lt_of_cell? w _ yf)).trans yf)⟩ (fun zm => ?_)
      clear hK K
      refine norm_ (a' := ?_) ?_ ?_
      rotate_left
      ·
       show Act.put _ (some 11) _ = _
       simp only [Act.put, List.setIfInBounds_toArray, List.set_cons_zero, List.set_cons_succ, i64_w, i32_w]
       rfl
      refine one_ (i := 10) (N := none) #[true, true, true, true, true, true, true, true, true, true, true] rfl rfl (one_of HT_.out qk_) (by decide) (fun K hK => ?_)
      have hs242 : w241.cell? ⟨zf, 0, none⟩ = some (.int .i64 0) := (blk_cell zv.out 0).trans rfl
      have hfs242 := blk_frozen zv.out 0
      have hns242_0 := zn.out
      have hns242_1 := zx.out
      have hns242_2 := zl.out
      have hms242_0 := yb.out
      have hms242_1 := yc.out
      have hms242_2 := yd.out
      have hs243 : w241.cell? ⟨zf, 1, none⟩ = some (.string (⟨#[]⟩ : ByteArray)) := (blk_cell zv.out 1).trans rfl
      have hfs243 := blk_frozen zv.out 1
      have hns243_0 := zn.out
      have hns243_1 := zx.out
      have hns243_2 := zl.out
      have hms243_0 := yb.out
      have hms243_1 := yc.out
      have hms243_2 := yd.out
      have hs244 : w241.cell? ⟨zf, 2, none⟩ = some (.slice none 0 0) := (blk_cell zv.out 2).trans rfl
      have hfs244 := blk_frozen zv.out 2
      have hns244_0 := zn.out
      have hns244_1 := zx.out
      have hns244_2 := zl.out
      have hms244_0 := yb.out
      have hms244_1 := yc.out
      have hms244_2 := yd.out
      refine skip_ (w1 := ?_) (by rfl) rfl ?_ ?_
      rotate_left
      exact qzz47_
      refine hK.out _ _ ⟨((cell_far (p := ⟨zf, _, none⟩) zn.out _).trans (((cell_far (p := ⟨zf, _, none⟩) zn.out _).trans (((cell_far (p := ⟨zf, _, none⟩) zn.out _).trans (zm.1)))))), ((cell_far (p := ⟨zf, _, none⟩) zn.out _).trans (((cell_far (p := ⟨zf, _, none⟩) zn.out _).trans (((cell_far (p := ⟨zf, _, none⟩) zn.out _).trans (zm.2.1)))))), ((cell_far (p := ⟨zf, _, none⟩) zl.out _).trans (((cell_far (p := ⟨zf, _, none⟩) zl.out _).trans (((cell_far (p := ⟨zf, _, none⟩) zl.out _).trans (zm.2.2.1)))))), ((cell_far (p := ⟨zf, _, none⟩) zl.out _).trans (((cell_far (p := ⟨zf, _, none⟩) zl.out _).trans (((cell_far (p := ⟨zf, _, none⟩) zl.out _).trans (zm.2.2.2.1)))))), ((cell_far (p := ⟨zf, _, none⟩) zl.out _).trans (((cell_far (p := ⟨zf, _, none⟩) zl.out _).trans (((cell_far (p := ⟨zf, _, none⟩) zl.out _).trans (zm.2.2.2.2.1)))))), ((cell_far (p := ⟨zf, _, none⟩) (qzz7_) _).trans (((cell_far (p := ⟨zf, _, none⟩) (qzz7_) _).trans (((cell_far (p := ⟨zf, _, none⟩) (qzz7_) _).trans (zm.2.2.2.2.2.1)))))), ((cell_far (p := ⟨zf, _, none⟩) (qzz6_) _).trans (((cell_far (p := ⟨zf, _, none⟩) (qzz6_) _).trans (((cell_far (p := ⟨zf, _, none⟩) (qzz6_) _).trans (zm.2.2.2.2.2.2.1)))))), ((cell_far (p := ⟨zf, _, none⟩) (qzz5_) _).trans (((cell_far (p := ⟨zf, _, none⟩) (qzz5_) _).trans (((cell_far (p := ⟨zf, _, none⟩) (qzz5_) _).trans (zm.2.2.2.2.2.2.2.1)))))), ((cell_far (p := ⟨zf, _, none⟩) (qzz4_) _).trans (((cell_far (p := ⟨zf, _, none⟩) (qzz4_) _).trans (((cell_far (p := ⟨zf, _, none⟩) (qzz4_) _).trans (zm.2.2.2.2.2.2.2.2))))))⟩ (fun zm => ?_)
      clear hK K
      refine done_ (done_of HT_.out qk_) ?_
      have hnb245 := yb.out
      have hnc245 := zn.out
      have hnb246 := yc.out
      have hnc246 := zx.out
      have hnb247 := yd.out
      have hnc247 := zl.out
      have hcz248_0 : w241.cell? ⟨zf, 0, none⟩ = some (.int .i64 0) := (blk_cell zv.out 0).trans rfl
      have hcz248_1 : w241.cell? ⟨zf, 1, none⟩ = some (.string (⟨#[]⟩ : ByteArray)) := (blk_cell zv.out 1).trans rfl
      have hcz248_2 : w241.cell? ⟨zf, 2, none⟩ = some (.slice none 0 0) := (blk_cell zv.out 2).trans rfl
      have hfz248_0 := blk_frozen zv.out 0
      have hfz248_1 := blk_frozen zv.out 1
      have hfz248_2 := blk_frozen zv.out 2
      have hnb249 := yk.out
      have hnc249 := yj.out
      have hcz250_0 : w241.cell? ⟨ze, 0, none⟩ = some (.string zk) := (blk_cell za.out 0).trans rfl
      have hcz250_1 : w241.cell? ⟨ze, 1, none⟩ = some (.int .i64 zj) := (blk_cell za.out 1).trans rfl
      have hcz250_2 : w241.cell? ⟨ze, 2, none⟩ = some (.bool false) := (blk_cell za.out 2).trans rfl
      have hfz250_0 := blk_frozen za.out 0
      have hfz250_1 := blk_frozen za.out 1
      have hfz250_2 := blk_frozen za.out 2
      try go_wp2
      go_ret
      exact ⟨qzz18_, qzz17_⟩
     rw [if_pos c201] at H
     have c201b0 : (t113 == 0) = true := beq_iff_eq.mpr c201
     have c201b1 : (t113 != 0) = false := bne_eq_false_iff_eq.mpr c201
     clear c201
     obtain ⟨ji202, hji202⟩ : ∃ j_ : Int, (wrap64 (zo + 1)) = j_ := ⟨_, rfl⟩
     replace H : (if 0 ≤ (ji202) then (if t112 = (rd ((rd_T45 zb zc).f2) (ji202)) then ((grommetlaw16_alive.f).bind fun t134 => (some t134)) else (some false)) else (none)) = some r := by first | (rw [hji202] at H; exact H) | (simp only [hji202] at H ⊢; exact H)
     (try rw [hji202] at c194b0)
     have hji202w : (IntKind.i64.wrap (zo + 1)) = ji202 := (i64_w _).trans hji202
     by_cases c203 : 0 ≤ (ji202)
     rotate_left
     ·
      rw [if_neg c203] at H
      exact absurd H (by simp)
     rw [if_pos c203] at H
     have c203b0 : decide (0 ≤ (ji202)) = true := decide_eq_true c203
     clear c203
     by_cases c204 : t112 = (rd ((rd_T45 zb zc).f2) (ji202))
     rotate_left
     ·
      rw [if_neg c204] at H
      have c204b0 : (t112 == (rd ((rd_T45 zb zc).f2) (ji202))) = false := beq_eq_false_iff_ne.mpr c204
      have c204b1 : (t112 != (rd ((rd_T45 zb zc).f2) (ji202))) = true := bne_iff_ne.mpr c204
      obtain rfl := Option.some.inj H
      have hnb222 := zy.out
      have hnc222 := zt.out
      have hnb223 := zz.out
      have hnc223 := zs.out
      have hcz224_0 : wr.cell? ⟨zh, 0, none⟩ = some (.int .i64 ((rd_T45 zb zc).f0)) := (blk_cell zi.out 0).trans rfl
      have hcz224_1 : wr.cell? ⟨zh, 1, none⟩ = some (.string ((rd_T45 zb zc).f1)) := (blk_cell zi.out 1).trans rfl
      have hcz224_2 : wr.cell? ⟨zh, 2, none⟩ = some (.slice ym ((rd_T45 zb zc).f2).length zu) := (blk_cell zi.out 2).trans rfl
      have hfz224_0 := blk_frozen zi.out 0
      have hfz224_1 := blk_frozen zi.out 1
      have hfz224_2 := blk_frozen zi.out 2
      try go_wp2
      have n0_ := qA_ (blk_drew zd.out)
      have n1_ := qA_ (blk_drew za.out)
      have n2_ := qA_ (blk_drew zi.out)
      have n3_ := qA_ (below_drew1 HB.out)
      replace zd := n0_
      replace za := n1_
      replace zi := n2_
      replace HB := n3_
      clear n0_ n1_ n2_ n3_
      have p130 : 0 ≤ (zo : Int) := of_decide_eq_true (qzz13_)
      have q130 : zo < (((rd_T45 zb zc).f2).length : Int) := of_decide_eq_true (qzz13_)
      obtain ⟨yl, e130, hx130_0⟩ := Kd.at_int yn.out zo p130 q130
      have yi := hx130_0
      cases e130
      replace hx130_0 := (HB.out.cell (World.block_lt_of_cell? w _ hx130_0)).trans hx130_0
      replace p130 := eq_true p130
      replace q130 := eq_true q130
      have p131 : 0 ≤ ((rd ((rd_T45 zb zc).f2) zo) : Int) := of_decide_eq_true (qzz13_)
      have q131 : (rd ((rd_T45 zb zc).f2) zo) < (zb.length : Int) := of_decide_eq_true (qzz13_)
      obtain ⟨ad131, yq, yr, e131, hx131_0, hx131_1, hx131_2, hl131_2, hi131_2⟩ := at_T45 ys.out (rd ((rd_T45 zb zc).f2) zo) p131 q131
      have KX131_2 := qA_ hx131_2
      have yf := hx131_2
      have yg := hx131_1
      have yh := hx131_0
      obtain rfl : zq = ad131 := (by injection e131)
      replace hx131_0 := (HB.out.cell (World.block_lt_of_cell? w _ hx131_0)).trans hx131_0
      replace hx131_1 := (HB.out.cell (World.block_lt_of_cell? w _ hx131_1)).trans hx131_1
      replace hx131_2 := (HB.out.cell (World.block_lt_of_cell? w _ hx131_2)).trans hx131_2
      have yu := qA_ hi131_2
      have HC131_2 := qA_ hl131_2
      clear hi131_2 hl131_2
      replace p131 := eq_true p131
      replace q131 := eq_true q131
      refine start_ (n := 11) (S := fun w' => w'.cell? ⟨zg, 0, none⟩ = some (.slice (some zq) zb.length zp) ∧ w'.cell? ⟨zg, 1, none⟩ = some (.int .i64 zc) ∧ w'.cell? ⟨zh, 0, none⟩ = some (.int .i64 ((rd_T45 zb zc).f0)) ∧ w'.cell? ⟨zh, 1, none⟩ = some (.string ((rd_T45 zb zc).f1)) ∧ w'.cell? ⟨zh, 2, none⟩ = some (.slice (some yl) ((rd_T45 zb zc).f2).length zu) ∧ w'.cell? (yl.add (zo).toNat) = some (.int .i64 (rd ((rd_T45 zb zc).f2) zo)) ∧ w'.cell? (zq.add (((rd ((rd_T45 zb zc).f2) zo)).toNat * 3)) = some (.int .i64 ((rd_T45 zb (rd ((rd_T45 zb zc).f2) zo)).f0)) ∧ w'.cell? ⟨(zq.add (((rd ((rd_T45 zb zc).f2) zo)).toNat * 3)).block, (zq.add (((rd ((rd_T45 zb zc).f2) zo)).toNat * 3)).off + 1, none⟩ = some (.string ((rd_T45 zb (rd ((rd_T45 zb zc).f2) zo)).f1)) ∧ w'.cell? ⟨(zq.add (((rd ((rd_T45 zb zc).f2) zo)).toNat * 3)).block, (zq.add (((rd ((rd_T45 zb zc).f2) zo)).toNat * 3)).off + 2, none⟩ = some (.slice yq ((rd_T45 zb (rd ((rd_T45 zb zc).f2) zo)).f2).length yr)) (ds := []) #[false, false, false, false, false, false, false, false, false, false, false] qk_ rfl rfl ⟨(blk_cell zd.out 0).trans rfl, (blk_cell zd.out 1).trans rfl, (blk_cell zi.out 0).trans rfl, (blk_cell zi.out 1).trans rfl, (blk_cell zi.out 2).trans rfl, ((HB.out.cell (World.block_lt_of_cell? w _ yi)).trans yi), ((HB.out.cell (World.block_lt_of_cell? w _ yh)).trans yh), ((HB.out.cell (World.block_lt_of_cell? w _ yg)).trans yg), ((HB.out.cell (World.block_lt_of_cell? w _ yf)).trans yf)⟩ (fun zm => ?_); refine with_tabW grommetlaw16_PathOne.tab19 grommetlaw16_PathOne.bits19 (fun HT_ HW_ => ?_)
      generalize wr.drew = w225 at zd za zi HB yu hx130_0 hx131_0 hx131_1 hx131_2 zm ⊢
      refine pure_ (i := 0) (N := some 106) (v := ?_) (a' := ?_) #[true, false, false, false, false, false, false, false, false, false, false] rfl rfl (any_of HT_.out qk_) (fun _ _ _ h => h) (Or.inl ⟨by rfl, ?_⟩) ?_ ?_
      rotate_left
      exact qzz45_
      rotate_left
      exact qzz44_
      refine pure_ (i := 2) (N := some 108) (v := ?_) (a' := ?_) #[true, false, true, false, false, false, false, false, false, false, false] rfl rfl (any_of HT_.out qk_) (fun _ _ _ h => h) (Or.inl ⟨by rfl, ?_⟩) ?_ ?_
      rotate_left
      exact qzz45_
      rotate_left
      exact qzz44_
      refine pure_ (i := 4) (N := some 110) (v := ?_) (a' := ?_) #[true, false, true, false, true, false, false, false, false, false, false] rfl rfl (any_of HT_.out qk_) (fun _ _ _ h => h) (Or.inl ⟨by rfl, ?_⟩) ?_ ?_
      rotate_left
      exact qzz45_
      rotate_left
      exact qzz44_
      refine take_ (i := 1) (N := some 107) (v := ?_) (a' := ?_) #[true, true, true, false, true, false, false, false, false, false, false] rfl rfl (take_ofW HT_.out HW_.out qk_) (fun _ _ _ h => h) (Or.inl ⟨by rfl, ?_⟩) zm ?_ ?_
      rotate_left
      exact qzz46_
      rotate_left
      exact qzz44_
      refine take_ (i := 3) (N := some 109) (v := ?_) (a' := ?_) #[true, true, true, true, true, false, false, false, false, false, false] rfl rfl (take_ofW HT_.out HW_.out qk_) (fun _ _ _ h => h) (Or.inl ⟨by rfl, ?_⟩) zm ?_ ?_
      rotate_left
      exact qzz46_
      rotate_left
      exact qzz44_
      refine pure_ (i := 5) (N := some 111) (v := ?_) (a' := ?_) #[true, true, true, true, true, true, false, false, false, false, false] rfl rfl (any_of HT_.out qk_) (fun _ _ _ h => h) (Or.inl ⟨by rfl, ?_⟩) ?_ ?_
      rotate_left
      exact qzz45_
      rotate_left
      exact qzz44_
      refine take_ (i := 6) (N := some 112) (v := ?_) (a' := ?_) #[true, true, true, true, true, true, true, false, false, false, false] rfl rfl (take_ofW HT_.out HW_.out qk_) (fun _ _ _ h => h) (Or.inl ⟨by rfl, ?_⟩) zm ?_ ?_
      rotate_left
      exact qzz46_
      rotate_left
      exact qzz44_
      refine pure_ (i := 7) (N := some 113) (v := ?_) (a' := ?_) #[true, true, true, true, true, true, true, true, false, false, false] rfl rfl (any_of HT_.out qk_) (fun _ _ _ h => h) (Or.inl ⟨by rfl, ?_⟩) ?_ ?_
      rotate_left
      exact qzz45_
      rotate_left
      exact qzz44_
      refine take_ (i := 8) (N := some 114) (v := ?_) (a' := ?_) #[true, true, true, true, true, true, true, true, true, false, false] rfl rfl (take_ofW HT_.out HW_.out qk_) (fun _ _ _ h => h) (Or.inl ⟨by rfl, ?_⟩) zm ?_ ?_
      rotate_left
      exact qzz46_
      rotate_left
      exact qzz44_
      refine one_ (i := 9) (N := some 11) #[true, true, true, true, true, true, true, true, true, true, false] rfl rfl (one_of HT_.out qk_) (by decide) (fun K hK => ?_)
      refine box_step ?hg (N := 11) ?hd (cs := #[.int .i64 0, .string (⟨#[]⟩ : ByteArray), .slice none 0 0]) (t := 45) ?hr ?_; (case hd => rfl); (case hg => rfl); (case hr => first | (go_simp; done) | (go_simp; rfl))
      intro zf hg w226 hbox hb
      have n0_ := qA_ (blk_below (g := zg) (o := .cells #[.slice (some zq) zb.length zp, .int .i64 zc] 24 (0, 0)) (qzz3_) hb)
      have n1_ := qA_ (blk_below (g := ze) (o := .cells #[.string zk, .int .i64 zj, .bool false] 58 (0, 0)) (qzz1_) hb)
      have n2_ := qA_ (blk_below (g := zh) (o := .cells #[.int .i64 ((rd_T45 zb zc).f0), .string ((rd_T45 zb zc).f1), .slice (some yl) ((rd_T45 zb zc).f2).length zu] 45 (0, 0)) (qzz16_) hb)
      have n3_ := qA_ (below_step (qzz8_) hb)
      have n4_ := qA_ (hbox)
      have n5_ := qA_ ((by rw [hg]; exact (below_size (qzz8_)) : w.heap.size ≤ zf))
      have n6_ := qA_ ((by rw [hg]; exact (below_size (qzz8_)) : w.heap.size ≤ zf))
      have n7_ := qA_ ((by rw [hg]; exact Nat.ne_of_lt (blk_lt (g := zg) (o := .cells #[.slice (some zq) zb.length zp, .int .i64 zc] 24 (0, 0)) (qzz3_)) : zg ≠ zf))
      have n8_ := qA_ ((by rw [hg]; exact Nat.ne_of_gt (blk_lt (g := zg) (o := .cells #[.slice (some zq) zb.length zp, .int .i64 zc] 24 (0, 0)) (qzz3_)) : zf ≠ zg))
      have n9_ := qA_ ((by rw [hg]; exact Nat.ne_of_lt (blk_lt (g := ze) (o := .cells #[.string zk, .int .i64 zj, .bool false] 58 (0, 0)) (qzz1_)) : ze ≠ zf))
      have n10_ := qA_ ((by rw [hg]; exact Nat.ne_of_gt (blk_lt (g := ze) (o := .cells #[.string zk, .int .i64 zj, .bool false] 58 (0, 0)) (qzz1_)) : zf ≠ ze))
      have n11_ := qA_ ((by rw [hg]; exact Nat.ne_of_lt (blk_lt (g := zh) (o := .cells #[.int .i64 ((rd_T45 zb zc).f0), .string ((rd_T45 zb zc).f1), .slice (some yl) ((rd_T45 zb zc).f2).length zu] 45 (0, 0)) (qzz16_)) : zh ≠ zf))
      have n12_ := qA_ ((by rw [hg]; exact Nat.ne_of_gt (blk_lt (g := zh) (o := .cells #[.int .i64 ((rd_T45 zb zc).f0), .string ((rd_T45 zb zc).f1), .slice (some yl) ((rd_T45 zb zc).f2).length zu] 45 (0, 0)) (qzz16_)) : zf ≠ zh))
      replace zd := n0_
      replace za := n1_
      replace zi := n2_
      replace HB := n3_
      have zv := n4_
      have yo := n5_
      have GE132 := n6_
      have zn := n7_
      have yb := n8_
      have zx := n9_
      have yc := n10_
      have zl := n11_
      have yd := n12_
      clear n0_ n1_ n2_ n3_ n4_ n5_ n6_ n7_ n8_ n9_ n10_ n11_ n12_
      clear hb hbox hg
      refine hK.out _ _ ⟨(blk_cell zd.out 0).trans rfl, (blk_cell zd.out 1).trans rfl, (blk_cell zi.out 0).trans rfl, (blk_cell zi.out 1).trans rfl, (blk_cell zi.out 2).trans rfl, ((HB.out.cell (World.block_lt_of_cell? w _ yi)).trans yi), ((HB.out.cell (World.block_lt_of_cell? w _ yh)).trans yh), ((HB.out.cell (World.block_lt_of_cell? w _ yg)).trans yg), ((HB.out.cell (World.block_lt_of_cell? w _ yf)).trans yf)⟩ (fun zm => ?_)
      clear hK K
      refine norm_ (a' := ?_) ?_ ?_
      rotate_left
      ·
       show Act.put _ (some 11) _ = _
       simp only [Act.put, List.setIfInBounds_toArray, List.set_cons_zero, List.set_cons_succ, i64_w, i32_w]
       rfl
      refine one_ (i := 10) (N := none) #[true, true, true, true, true, true, true, true, true, true, true] rfl rfl (one_of HT_.out qk_) (by decide) (fun K hK => ?_)
      have hs227 : w226.cell? ⟨zf, 0, none⟩ = some (.int .i64 0) := (blk_cell zv.out 0).trans rfl
      have hfs227 := blk_frozen zv.out 0
      have hns227_0 := zn.out
      have hns227_1 := zx.out
      have hns227_2 := zl.out
      have hms227_0 := yb.out
      have hms227_1 := yc.out
      have hms227_2 := yd.out
      have hs228 : w226.cell? ⟨zf, 1, none⟩ = some (.string (⟨#[]⟩ : ByteArray)) := (blk_cell zv.out 1).trans rfl
      have hfs228 := blk_frozen zv.out 1
      have hns228_0 := zn.out
      have hns228_1 := zx.out
      have hns228_2 := zl.out
      have hms228_0 := yb.out
      have hms228_1 := yc.out
      have hms228_2 := yd.out
      have hs229 : w226.cell? ⟨zf, 2, none⟩ = some (.slice none 0 0) := (blk_cell zv.out 2).trans rfl
      have hfs229 := blk_frozen zv.out 2
      have hns229_0 := zn.out
      have hns229_1 := zx.out
      have hns229_2 := zl.out
      have hms229_0 := yb.out
      have hms229_1 := yc.out
      have hms229_2 := yd.out
      refine skip_ (w1 := ?_) (by rfl) rfl ?_ ?_
      rotate_left
      exact qzz47_
      refine hK.out _ _ ⟨((cell_far (p := ⟨zf, _, none⟩) zn.out _).trans (((cell_far (p := ⟨zf, _, none⟩) zn.out _).trans (((cell_far (p := ⟨zf, _, none⟩) zn.out _).trans (zm.1)))))), ((cell_far (p := ⟨zf, _, none⟩) zn.out _).trans (((cell_far (p := ⟨zf, _, none⟩) zn.out _).trans (((cell_far (p := ⟨zf, _, none⟩) zn.out _).trans (zm.2.1)))))), ((cell_far (p := ⟨zf, _, none⟩) zl.out _).trans (((cell_far (p := ⟨zf, _, none⟩) zl.out _).trans (((cell_far (p := ⟨zf, _, none⟩) zl.out _).trans (zm.2.2.1)))))), ((cell_far (p := ⟨zf, _, none⟩) zl.out _).trans (((cell_far (p := ⟨zf, _, none⟩) zl.out _).trans (((cell_far (p := ⟨zf, _, none⟩) zl.out _).trans (zm.2.2.2.1)))))), ((cell_far (p := ⟨zf, _, none⟩) zl.out _).trans (((cell_far (p := ⟨zf, _, none⟩) zl.out _).trans (((cell_far (p := ⟨zf, _, none⟩) zl.out _).trans (zm.2.2.2.2.1)))))), ((cell_far (p := ⟨zf, _, none⟩) (qzz7_) _).trans (((cell_far (p := ⟨zf, _, none⟩) (qzz7_) _).trans (((cell_far (p := ⟨zf, _, none⟩) (qzz7_) _).trans (zm.2.2.2.2.2.1)))))), ((cell_far (p := ⟨zf, _, none⟩) (qzz6_) _).trans (((cell_far (p := ⟨zf, _, none⟩) (qzz6_) _).trans (((cell_far (p := ⟨zf, _, none⟩) (qzz6_) _).trans (zm.2.2.2.2.2.2.1)))))), ((cell_far (p := ⟨zf, _, none⟩) (qzz5_) _).trans (((cell_far (p := ⟨zf, _, none⟩) (qzz5_) _).trans (((cell_far (p := ⟨zf, _, none⟩) (qzz5_) _).trans (zm.2.2.2.2.2.2.2.1)))))), ((cell_far (p := ⟨zf, _, none⟩) (qzz4_) _).trans (((cell_far (p := ⟨zf, _, none⟩) (qzz4_) _).trans (((cell_far (p := ⟨zf, _, none⟩) (qzz4_) _).trans (zm.2.2.2.2.2.2.2.2))))))⟩ (fun zm => ?_)
      clear hK K
      refine done_ (done_of HT_.out qk_) ?_
      have hnb230 := yb.out
      have hnc230 := zn.out
      have hnb231 := yc.out
      have hnc231 := zx.out
      have hnb232 := yd.out
      have hnc232 := zl.out
      have hcz233_0 : w226.cell? ⟨zf, 0, none⟩ = some (.int .i64 0) := (blk_cell zv.out 0).trans rfl
      have hcz233_1 : w226.cell? ⟨zf, 1, none⟩ = some (.string (⟨#[]⟩ : ByteArray)) := (blk_cell zv.out 1).trans rfl
      have hcz233_2 : w226.cell? ⟨zf, 2, none⟩ = some (.slice none 0 0) := (blk_cell zv.out 2).trans rfl
      have hfz233_0 := blk_frozen zv.out 0
      have hfz233_1 := blk_frozen zv.out 1
      have hfz233_2 := blk_frozen zv.out 2
      have hnb234 := yk.out
      have hnc234 := yj.out
      have hcz235_0 : w226.cell? ⟨ze, 0, none⟩ = some (.string zk) := (blk_cell za.out 0).trans rfl
      have hcz235_1 : w226.cell? ⟨ze, 1, none⟩ = some (.int .i64 zj) := (blk_cell za.out 1).trans rfl
      have hcz235_2 : w226.cell? ⟨ze, 2, none⟩ = some (.bool false) := (blk_cell za.out 2).trans rfl
      have hfz235_0 := blk_frozen za.out 0
      have hfz235_1 := blk_frozen za.out 1
      have hfz235_2 := blk_frozen za.out 2
      have hcz236_0 : w226.cell? ⟨zh, 0, none⟩ = some (.int .i64 ((rd_T45 zb zc).f0)) := (blk_cell zi.out 0).trans rfl
      have hcz236_1 : w226.cell? ⟨zh, 1, none⟩ = some (.string ((rd_T45 zb zc).f1)) := (blk_cell zi.out 1).trans rfl
      have hcz236_2 : w226.cell? ⟨zh, 2, none⟩ = some (.slice (some yl) ((rd_T45 zb zc).f2).length zu) := (blk_cell zi.out 2).trans rfl
      have hfz236_0 := blk_frozen zi.out 0
      have hfz236_1 := blk_frozen zi.out 1
      have hfz236_2 := blk_frozen zi.out 2
      have p133 : 0 ≤ ((ji202) : Int) := of_decide_eq_true (qzz13_)
      have q133 : (ji202) < (((rd_T45 zb zc).f2).length : Int) := of_decide_eq_true (qzz13_)
      obtain ⟨ad133, e133, hx133_0⟩ := Kd.at_int yn.out (ji202) p133 q133
      obtain rfl : yl = ad133 := (by injection e133)
      have hn133_0 : yl.block ≠ zf := Nat.ne_of_lt (Nat.lt_of_lt_of_le (qzz24_) yo.out)
      have hn133_1 : yl.block ≠ zf := Nat.ne_of_lt (Nat.lt_of_lt_of_le (qzz24_) yo.out)
      have hn133_2 : yl.block ≠ zf := Nat.ne_of_lt (Nat.lt_of_lt_of_le (qzz24_) yo.out)
      replace hx133_0 := (HB.out.cell (World.block_lt_of_cell? w _ hx133_0)).trans hx133_0
      replace hx133_0 := (cell_far (p := ⟨zf, 0, none⟩) (qzz34_) (.int .i64 ((rd_T45 zb (rd ((rd_T45 zb zc).f2) zo)).f0))).trans hx133_0
      replace hx133_0 := (cell_far (p := ⟨zf, 1, none⟩) (qzz33_) (.string ((rd_T45 zb (rd ((rd_T45 zb zc).f2) zo)).f1))).trans hx133_0
      replace hx133_0 := (cell_far (p := ⟨zf, 2, none⟩) (qzz32_) (.slice yq ((rd_T45 zb (rd ((rd_T45 zb zc).f2) zo)).f2).length yr)).trans hx133_0
      clear hn133_0
      clear hn133_1
      clear hn133_2
      replace p133 := eq_true p133
      replace q133 := eq_true q133
      try go_wp2
      go_ret
      exact ⟨qzz31_, qzz17_⟩
     rw [if_pos c204] at H
     have c204b0 : (t112 == (rd ((rd_T45 zb zc).f2) (ji202))) = true := beq_iff_eq.mpr c204
     have c204b1 : (t112 != (rd ((rd_T45 zb zc).f2) (ji202))) = false := bne_eq_false_iff_eq.mpr c204
     clear c204
     replace H := Option.bind_eq_some_iff.mp H
     obtain ⟨t134, A2050, H⟩ := H
     replace H : (some t134) = some r := H
     have A205 := qA_ A2050
     clear A2050
     obtain rfl := Option.some.inj H
     have hnb206 := zy.out
     have hnc206 := zt.out
     have hnb207 := zz.out
     have hnc207 := zs.out
     have hcz208_0 : wr.cell? ⟨zh, 0, none⟩ = some (.int .i64 ((rd_T45 zb zc).f0)) := (blk_cell zi.out 0).trans rfl
     have hcz208_1 : wr.cell? ⟨zh, 1, none⟩ = some (.string ((rd_T45 zb zc).f1)) := (blk_cell zi.out 1).trans rfl
     have hcz208_2 : wr.cell? ⟨zh, 2, none⟩ = some (.slice ym ((rd_T45 zb zc).f2).length zu) := (blk_cell zi.out 2).trans rfl
     have hfz208_0 := blk_frozen zi.out 0
     have hfz208_1 := blk_frozen zi.out 1
     have hfz208_2 := blk_frozen zi.out 2
     try go_wp2
     have n0_ := qA_ (blk_drew zd.out)
     have n1_ := qA_ (blk_drew za.out)
     have n2_ := qA_ (blk_drew zi.out)
     have n3_ := qA_ (below_drew1 HB.out)
     replace zd := n0_
     replace za := n1_
     replace zi := n2_
     replace HB := n3_
     clear n0_ n1_ n2_ n3_
     have p130 : 0 ≤ (zo : Int) := of_decide_eq_true (qzz13_)
     have q130 : zo < (((rd_T45 zb zc).f2).length : Int) := of_decide_eq_true (qzz13_)
     obtain ⟨yl, e130, hx130_0⟩ := Kd.at_int yn.out zo p130 q130
     have yi := hx130_0
     cases e130
     replace hx130_0 := (HB.out.cell (World.block_lt_of_cell? w _ hx130_0)).trans hx130_0
     replace p130 := eq_true p130
     replace q130 := eq_true q130
     have p131 : 0 ≤ ((rd ((rd_T45 zb zc).f2) zo) : Int) := of_decide_eq_true (qzz13_)
     have q131 : (rd ((rd_T45 zb zc).f2) zo) < (zb.length : Int) := of_decide_eq_true (qzz13_)
     obtain ⟨ad131, yq, yr, e131, hx131_0, hx131_1, hx131_2, hl131_2, hi131_2⟩ := at_T45 ys.out (rd ((rd_T45 zb zc).f2) zo) p131 q131
     have KX131_2 := qA_ hx131_2
     have yf := hx131_2
     have yg := hx131_1
     have yh := hx131_0
     obtain rfl : zq = ad131 := (by injection e131)
     replace hx131_0 := (HB.out.cell (World.block_lt_of_cell? w _ hx131_0)).trans hx131_0
     replace hx131_1 := (HB.out.cell (World.block_lt_of_cell? w _ hx131_1)).trans hx131_1
     replace hx131_2 := (HB.out.cell (World.block_lt_of_cell? w _ hx131_2)).trans hx131_2
     have yu := qA_ hi131_2
     have HC131_2 := qA_ hl131_2
     clear hi131_2 hl131_2
     replace p131 := eq_true p131
     replace q131 := eq_true q131
     refine start_ (n := 11) (S := fun w' => w'.cell? ⟨zg, 0, none⟩ = some (.slice (some zq) zb.length zp) ∧ w'.cell? ⟨zg, 1, none⟩ = some (.int .i64 zc) ∧ w'.cell? ⟨zh, 0, none⟩ = some (.int .i64 ((rd_T45 zb zc).f0)) ∧ w'.cell? ⟨zh, 1, none⟩ = some (.string ((rd_T45 zb zc).f1)) ∧ w'.cell? ⟨zh, 2, none⟩ = some (.slice (some yl) ((rd_T45 zb zc).f2).length zu) ∧ w'.cell? (yl.add (zo).toNat) = some (.int .i64 (rd ((rd_T45 zb zc).f2) zo)) ∧ w'.cell? (zq.add (((rd ((rd_T45 zb zc).f2) zo)).toNat * 3)) = some (.int .i64 ((rd_T45 zb (rd ((rd_T45 zb zc).f2) zo)).f0)) ∧ w'.cell? ⟨(zq.add (((rd ((rd_T45 zb zc).f2) zo)).toNat * 3)).block, (zq.add (((rd ((rd_T45 zb zc).f2) zo)).toNat * 3)).off + 1, none⟩ = some (.string ((rd_T45 zb (rd ((rd_T45 zb zc).f2) zo)).f1)) ∧ w'.cell? ⟨(zq.add (((rd ((rd_T45 zb zc).f2) zo)).toNat * 3)).block, (zq.add (((rd ((rd_T45 zb zc).f2) zo)).toNat * 3)).off + 2, none⟩ = some (.slice yq ((rd_T45 zb (rd ((rd_T45 zb zc).f2) zo)).f2).length yr)) (ds := []) #[false, false, false, false, false, false, false, false, false, false, false] qk_ rfl rfl ⟨(blk_cell zd.out 0).trans rfl, (blk_cell zd.out 1).trans rfl, (blk_cell zi.out 0).trans rfl, (blk_cell zi.out 1).trans rfl, (blk_cell zi.out 2).trans rfl, ((HB.out.cell (World.block_lt_of_cell? w _ yi)).trans yi), ((HB.out.cell (World.block_lt_of_cell? w _ yh)).trans yh), ((HB.out.cell (World.block_lt_of_cell? w _ yg)).trans yg), ((HB.out.cell (World.block_lt_of_cell? w _ yf)).trans yf)⟩ (fun zm => ?_); refine with_tabW grommetlaw16_PathOne.tab19 grommetlaw16_PathOne.bits19 (fun HT_ HW_ => ?_)
     generalize wr.drew = w209 at zd za zi HB yu hx130_0 hx131_0 hx131_1 hx131_2 zm ⊢
     refine pure_ (i := 0) (N := some 106) (v := ?_) (a' := ?_) #[true, false, false, false, false, false, false, false, false, false, false] rfl rfl (any_of HT_.out qk_) (fun _ _ _ h => h) (Or.inl ⟨by rfl, ?_⟩) ?_ ?_
     rotate_left
     exact qzz45_
     rotate_left
     exact qzz44_
     refine pure_ (i := 2) (N := some 108) (v := ?_) (a' := ?_) #[true, false, true, false, false, false, false, false, false, false, false] rfl rfl (any_of HT_.out qk_) (fun _ _ _ h => h) (Or.inl ⟨by rfl, ?_⟩) ?_ ?_
     rotate_left
     exact qzz45_
     rotate_left
     exact qzz44_
     refine pure_ (i := 4) (N := some 110) (v := ?_) (a' := ?_) #[true, false, true, false, true, false, false, false, false, false, false] rfl rfl (any_of HT_.out qk_) (fun _ _ _ h => h) (Or.inl ⟨by rfl, ?_⟩) ?_ ?_
     rotate_left
     exact qzz45_
     rotate_left
     exact qzz44_
     refine take_ (i := 1) (N := some 107) (v := ?_) (a' := ?_) #[true, true, true, false, true, false, false, false, false, false, false] rfl rfl (take_ofW HT_.out HW_.out qk_) (fun _ _ _ h => h) (Or.inl ⟨by rfl, ?_⟩) zm ?_ ?_
     rotate_left
     exact qzz46_
     rotate_left
     exact qzz44_
     refine take_ (i := 3) (N := some 109) (v := ?_) (a' := ?_) #[true, true, true, true, true, false, false, false, false, false, false] rfl rfl (take_ofW HT_.out HW_.out qk_) (fun _ _ _ h => h) (Or.inl ⟨by rfl, ?_⟩) zm ?_ ?_
     rotate_left
     exact qzz46_
     rotate_left
     exact qzz44_
     refine pure_ (i := 5) (N := some 111) (v := ?_) (a' := ?_) #[true, true, true, true, true, true, false, false, false, false, false] rfl rfl (any_of HT_.out qk_) (fun _ _ _ h => h) (Or.inl ⟨by rfl, ?_⟩) ?_ ?_
     rotate_left
     exact qzz45_
     rotate_left
     exact qzz44_
     refine take_ (i := 6) (N := some 112) (v := ?_) (a' := ?_) #[true, true, true, true, true, true, true, false, false, false, false] rfl rfl (take_ofW HT_.out HW_.out qk_) (fun _ _ _ h => h) (Or.inl ⟨by rfl, ?_⟩) zm ?_ ?_
     rotate_left
     exact qzz46_
     rotate_left
     exact qzz44_
     refine pure_ (i := 7) (N := some 113) (v := ?_) (a' := ?_) #[true, true, true, true, true, true, true, true, false, false, false] rfl rfl (any_of HT_.out qk_) (fun _ _ _ h => h) (Or.inl ⟨by rfl, ?_⟩) ?_ ?_
     rotate_left
     exact qzz45_
     rotate_left
     exact qzz44_
     refine take_ (i := 8) (N := some 114) (v := ?_) (a' := ?_) #[true, true, true, true, true, true, true, true, true, false, false] rfl rfl (take_ofW HT_.out HW_.out qk_) (fun _ _ _ h => h) (Or.inl ⟨by rfl, ?_⟩) zm ?_ ?_
     rotate_left
     exact qzz46_
     rotate_left
     exact qzz44_
     refine one_ (i := 9) (N := some 11) #[true, true, true, true, true, true, true, true, true, true, false] rfl rfl (one_of HT_.out qk_) (by decide) (fun K hK => ?_)
     refine box_step ?hg (N := 11) ?hd (cs := #[.int .i64 0, .string (⟨#[]⟩ : ByteArray), .slice none 0 0]) (t := 45) ?hr ?_; (case hd => rfl); (case hg => rfl); (case hr => first | (go_simp; done) | (go_simp; rfl))
     intro zf hg w210 hbox hb
     have n0_ := qA_ (blk_below (g := zg) (o := .cells #[.slice (some zq) zb.length zp, .int .i64 zc] 24 (0, 0)) (qzz3_) hb)
     have n1_ := qA_ (blk_below (g := ze) (o := .cells #[.string zk, .int .i64 zj, .bool false] 58 (0, 0)) (qzz1_) hb)
     have n2_ := qA_ (blk_below (g := zh) (o := .cells #[.int .i64 ((rd_T45 zb zc).f0), .string ((rd_T45 zb zc).f1), .slice (some yl) ((rd_T45 zb zc).f2).length zu] 45 (0, 0)) (qzz16_) hb)
     have n3_ := qA_ (below_step (qzz8_) hb)
     have n4_ := qA_ (hbox)
     have n5_ := qA_ ((by rw [hg]; exact (below_size (qzz8_)) : w.heap.size ≤ zf))
     have n6_ := qA_ ((by rw [hg]; exact (below_size (qzz8_)) : w.heap.size ≤ zf))
     have n7_ := qA_ ((by rw [hg]; exact Nat.ne_of_lt (blk_lt (g := zg) (o := .cells #[.slice (some zq) zb.length zp, .int .i64 zc] 24 (0, 0)) (qzz3_)) : zg ≠ zf))
     have n8_ := qA_ ((by rw [hg]; exact Nat.ne_of_gt (blk_lt (g := zg) (o := .cells #[.slice (some zq) zb.length zp, .int .i64 zc] 24 (0, 0)) (qzz3_)) : zf ≠ zg))
     have n9_ := qA_ ((by rw [hg]; exact Nat.ne_of_lt (blk_lt (g := ze) (o := .cells #[.string zk, .int .i64 zj, .bool false] 58 (0, 0)) (qzz1_)) : ze ≠ zf))
     have n10_ := qA_ ((by rw [hg]; exact Nat.ne_of_gt (blk_lt (g := ze) (o := .cells #[.string zk, .int .i64 zj, .bool false] 58 (0, 0)) (qzz1_)) : zf ≠ ze))
     have n11_ := qA_ ((by rw [hg]; exact Nat.ne_of_lt (blk_lt (g := zh) (o := .cells #[.int .i64 ((rd_T45 zb zc).f0), .string ((rd_T45 zb zc).f1), .slice (some yl) ((rd_T45 zb zc).f2).length zu] 45 (0, 0)) (qzz16_)) : zh ≠ zf))
     have n12_ := qA_ ((by rw [hg]; exact Nat.ne_of_gt (blk_lt (g := zh) (o := .cells #[.int .i64 ((rd_T45 zb zc).f0), .string ((rd_T45 zb zc).f1), .slice (some yl) ((rd_T45 zb zc).f2).length zu] 45 (0, 0)) (qzz16_)) : zf ≠ zh))
     replace zd := n0_
     replace za := n1_
     replace zi := n2_
     replace HB := n3_
     have zv := n4_
     have yo := n5_
     have GE132 := n6_
     have zn := n7_
     have yb := n8_
     have zx := n9_
     have yc := n10_
     have zl := n11_
     have yd := n12_
     clear n0_ n1_ n2_ n3_ n4_ n5_ n6_ n7_ n8_ n9_ n10_ n11_ n12_
     clear hb hbox hg
     refine hK.out _ _ ⟨(blk_cell zd.out 0).trans rfl, (blk_cell zd.out 1).trans rfl, (blk_cell zi.out 0).trans rfl, (blk_cell zi.out 1).trans rfl, (blk_cell zi.out 2).trans rfl, ((HB.out.cell (World.block_lt_of_cell? w _ yi)).trans yi), ((HB.out.cell (World.block_lt_of_cell? w _ yh)).trans yh), ((HB.out.cell (World.block_lt_of_cell? w _ yg)).trans yg), ((HB.out.cell (World.block_lt_of_cell? w _ yf)).trans yf)⟩ (fun zm => ?_)
     clear hK K
     refine norm_ (a' := ?_) ?_ ?_
     rotate_left
     ·
      show Act.put _ (some 11) _ = _
      simp only [Act.put, List.setIfInBounds_toArray, List.set_cons_zero, List.set_cons_succ, i64_w, i32_w]
      rfl
     refine one_ (i := 10) (N := none) #[true, true, true, true, true, true, true, true, true, true, true] rfl rfl (one_of HT_.out qk_) (by decide) (fun K hK => ?_)
     have hs211 : w210.cell? ⟨zf, 0, none⟩ = some (.int .i64 0) := (blk_cell zv.out 0).trans rfl
     have hfs211 := blk_frozen zv.out 0
     have hns211_0 := zn.out
     have hns211_1 := zx.out
     have hns211_2 := zl.out
     have hms211_0 := yb.out
     have hms211_1 := yc.out
     have hms211_2 := yd.out
     have hs212 : w210.cell? ⟨zf, 1, none⟩ = some (.string (⟨#[]⟩ : ByteArray)) := (blk_cell zv.out 1).trans rfl
     have hfs212 := blk_frozen zv.out 1
     have hns212_0 := zn.out
     have hns212_1 := zx.out
     have hns212_2 := zl.out
     have hms212_0 := yb.out
     have hms212_1 := yc.out
     have hms212_2 := yd.out
     have hs213 : w210.cell? ⟨zf, 2, none⟩ = some (.slice none 0 0) := (blk_cell zv.out 2).trans rfl
     have hfs213 := blk_frozen zv.out 2
     have hns213_0 := zn.out
     have hns213_1 := zx.out
     have hns213_2 := zl.out
     have hms213_0 := yb.out
     have hms213_1 := yc.out
     have hms213_2 := yd.out
     refine skip_ (w1 := ?_) (by rfl) rfl ?_ ?_
     rotate_left
     exact qzz47_
     refine hK.out _ _ ⟨((cell_far (p := ⟨zf, _, none⟩) zn.out _).trans (((cell_far (p := ⟨zf, _, none⟩) zn.out _).trans (((cell_far (p := ⟨zf, _, none⟩) zn.out _).trans (zm.1)))))), ((cell_far (p := ⟨zf, _, none⟩) zn.out _).trans (((cell_far (p := ⟨zf, _, none⟩) zn.out _).trans (((cell_far (p := ⟨zf, _, none⟩) zn.out _).trans (zm.2.1)))))), ((cell_far (p := ⟨zf, _, none⟩) zl.out _).trans (((cell_far (p := ⟨zf, _, none⟩) zl.out _).trans (((cell_far (p := ⟨zf, _, none⟩) zl.out _).trans (zm.2.2.1)))))), ((cell_far (p := ⟨zf, _, none⟩) zl.out _).trans (((cell_far (p := ⟨zf, _, none⟩) zl.out _).trans (((cell_far (p := ⟨zf, _, none⟩) zl.out _).trans (zm.2.2.2.1)))))), ((cell_far (p := ⟨zf, _, none⟩) zl.out _).trans (((cell_far (p := ⟨zf, _, none⟩) zl.out _).trans (((cell_far (p := ⟨zf, _, none⟩) zl.out _).trans (zm.2.2.2.2.1)))))), ((cell_far (p := ⟨zf, _, none⟩) (qzz7_) _).trans (((cell_far (p := ⟨zf, _, none⟩) (qzz7_) _).trans (((cell_far (p := ⟨zf, _, none⟩) (qzz7_) _).trans (zm.2.2.2.2.2.1)))))), ((cell_far (p := ⟨zf, _, none⟩) (qzz6_) _).trans (((cell_far (p := ⟨zf, _, none⟩) (qzz6_) _).trans (((cell_far (p := ⟨zf, _, none⟩) (qzz6_) _).trans (zm.2.2.2.2.2.2.1)))))), ((cell_far (p := ⟨zf, _, none⟩) (qzz5_) _).trans (((cell_far (p := ⟨zf, _, none⟩) (qzz5_) _).trans (((cell_far (p := ⟨zf, _, none⟩) (qzz5_) _).trans (zm.2.2.2.2.2.2.2.1)))))), ((cell_far (p := ⟨zf, _, none⟩) (qzz4_) _).trans (((cell_far (p := ⟨zf, _, none⟩) (qzz4_) _).trans (((cell_far (p := ⟨zf, _, none⟩) (qzz4_) _).trans (zm.2.2.2.2.2.2.2.2))))))⟩ (fun zm => ?_)
     clear hK K
     refine done_ (done_of HT_.out qk_) ?_
     have hnb214 := yb.out
     have hnc214 := zn.out
     have hnb215 := yc.out
     have hnc215 := zx.out
     have hnb216 := yd.out
     have hnc216 := zl.out
     have hcz217_0 : w210.cell? ⟨zf, 0, none⟩ = some (.int .i64 0) := (blk_cell zv.out 0).trans rfl
     have hcz217_1 : w210.cell? ⟨zf, 1, none⟩ = some (.string (⟨#[]⟩ : ByteArray)) := (blk_cell zv.out 1).trans rfl
     have hcz217_2 : w210.cell? ⟨zf, 2, none⟩ = some (.slice none 0 0) := (blk_cell zv.out 2).trans rfl
     have hfz217_0 := blk_frozen zv.out 0
     have hfz217_1 := blk_frozen zv.out 1
     have hfz217_2 := blk_frozen zv.out 2
     have hnb218 := yk.out
     have hnc218 := yj.out
     have hcz219_0 : w210.cell? ⟨ze, 0, none⟩ = some (.string zk) := (blk_cell za.out 0).trans rfl
     have hcz219_1 : w210.cell? ⟨ze, 1, none⟩ = some (.int .i64 zj) := (blk_cell za.out 1).trans rfl
     have hcz219_2 : w210.cell? ⟨ze, 2, none⟩ = some (.bool false) := (blk_cell za.out 2).trans rfl
     have hfz219_0 := blk_frozen za.out 0
     have hfz219_1 := blk_frozen za.out 1
     have hfz219_2 := blk_frozen za.out 2
     have hcz220_0 : w210.cell? ⟨zh, 0, none⟩ = some (.int .i64 ((rd_T45 zb zc).f0)) := (blk_cell zi.out 0).trans rfl
     have hcz220_1 : w210.cell? ⟨zh, 1, none⟩ = some (.string ((rd_T45 zb zc).f1)) := (blk_cell zi.out 1).trans rfl
     have hcz220_2 : w210.cell? ⟨zh, 2, none⟩ = some (.slice (some yl) ((rd_T45 zb zc).f2).length zu) := (blk_cell zi.out 2).trans rfl
     have hfz220_0 := blk_frozen zi.out 0
     have hfz220_1 := blk_frozen zi.out 1
     have hfz220_2 := blk_frozen zi.out 2
     have p133 : 0 ≤ ((ji202) : Int) := of_decide_eq_true (qzz13_)
     have q133 : (ji202) < (((rd_T45 zb zc).f2).length : Int) := of_decide_eq_true (qzz13_)
     obtain ⟨ad133, e133, hx133_0⟩ := Kd.at_int yn.out (ji202) p133 q133
     obtain rfl : yl = ad133 := (by injection e133)
     have hn133_0 : yl.block ≠ zf := Nat.ne_of_lt (Nat.lt_of_lt_of_le (qzz24_) yo.out)
     have hn133_1 : yl.block ≠ zf := Nat.ne_of_lt (Nat.lt_of_lt_of_le (qzz24_) yo.out)
     have hn133_2 : yl.block ≠ zf := Nat.ne_of_lt (Nat.lt_of_lt_of_le (qzz24_) yo.out)
     replace hx133_0 := (HB.out.cell (World.block_lt_of_cell? w _ hx133_0)).trans hx133_0
     replace hx133_0 := (cell_far (p := ⟨zf, 0, none⟩) (qzz34_) (.int .i64 ((rd_T45 zb (rd ((rd_T45 zb zc).f2) zo)).f0))).trans hx133_0
     replace hx133_0 := (cell_far (p := ⟨zf, 1, none⟩) (qzz33_) (.string ((rd_T45 zb (rd ((rd_T45 zb zc).f2) zo)).f1))).trans hx133_0
     replace hx133_0 := (cell_far (p := ⟨zf, 2, none⟩) (qzz32_) (.slice yq ((rd_T45 zb (rd ((rd_T45 zb zc).f2) zo)).f2).length yr)).trans hx133_0
     clear hn133_0
     clear hn133_1
     clear hn133_2
     replace p133 := eq_true p133
     replace q133 := eq_true q133
     try go_wp2_with (first | (go_at_call 24; (with_reducible refine (grommetlaw16_alive.calls  t134 _ (hG.below (qzz2_)) A205.out).mono ?_); rintro e w221 ⟨rfl, hb⟩; have n0_ := qA_ (blk_below (g := zg) (o := .cells #[.slice (some zq) zb.length zp, .int .i64 zc] 24 (0, 0)) (qzz21_) hb); have n1_ := qA_ (blk_below (g := ze) (o := .cells #[.string zk, .int .i64 zj, .bool false] 58 (0, 0)) (qzz20_) hb); have n2_ := qA_ (blk_below (g := zh) (o := .cells #[.int .i64 ((rd_T45 zb zc).f0), .string ((rd_T45 zb zc).f1), .slice (some yl) ((rd_T45 zb zc).f2).length zu] 45 (0, 0)) (qzz19_) hb); have n3_ := qA_ (blk_below (g := zf) (o := .cells #[.int .i64 ((rd_T45 zb (rd ((rd_T45 zb zc).f2) zo)).f0), .string ((rd_T45 zb (rd ((rd_T45 zb zc).f2) zo)).f1), .slice yq ((rd_T45 zb (rd ((rd_T45 zb zc).f2) zo)).f2).length yr] 45 (0, 0)) (by (with_reducible repeat (first | refine blk_drewN ?_ _ | refine blk_drew ?_ | refine blk_alloc ?_ _)); refine blk_put (cs := #[.int .i64 ((rd_T45 zb (rd ((rd_T45 zb zc).f2) zo)).f0), .string ((rd_T45 zb (rd ((rd_T45 zb zc).f2) zo)).f1), .slice none 0 0]) ?_ 2 _ rfl; (with_reducible repeat (first | refine blk_drewN ?_ _ | refine blk_drew ?_ | refine blk_alloc ?_ _)); refine blk_put (cs := #[.int .i64 ((rd_T45 zb (rd ((rd_T45 zb zc).f2) zo)).f0), .string (⟨#[]⟩ : ByteArray), .slice none 0 0]) ?_ 1 _ rfl; (with_reducible repeat (first | refine blk_drewN ?_ _ | refine blk_drew ?_ | refine blk_alloc ?_ _)); refine blk_put (cs := #[.int .i64 0, .string (⟨#[]⟩ : ByteArray), .slice none 0 0]) ?_ 0 _ rfl; (with_reducible repeat (first | refine blk_drewN ?_ _ | refine blk_drew ?_ | refine blk_alloc ?_ _)); exact zv.out) hb); have n4_ := qA_ (below_step (qzz17_) hb); replace zd := n0_; replace za := n1_; replace zi := n2_; replace zv := n3_; replace HB := n4_; clear n0_ n1_ n2_ n3_ n4_; (try clear hb); (try clear hk)))
     go_ret
     exact ⟨qzz31_, qzz17_⟩
end Go.Proofs.YtiooacmplmcphaaGreatDoor.PX

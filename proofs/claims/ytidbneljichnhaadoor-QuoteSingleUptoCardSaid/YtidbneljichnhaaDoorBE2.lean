/- Texts that stand behind one another, laid into one: functions of the program and of its reference, what each comes to, and plain laws of that. -/
import Derived.Test.YtidbneljichnhaaDoorBE0
import Derived.Test.YtidbneljichnhaaDoorBE1
import Derived.Laws.BitsAllLaws
/- YtidbneljichnhaaDoorFGrommetlaw07QuoteSingle: what print.py told of Go functions, for this claim. -/
namespace Go.Proofs.YtidbneljichnhaaDoor.PX
open Go.RowKit Go.Proofs.YtidbneljichnhaaDoorW.PrintWords Go.Proofs.YtidbneljichnhaaDoorW.PrintLast Go.Proofs.YtidbneljichnhaaDoorW.PrintMore Go.Proofs.YtidbneljichnhaaDoor Go.Proofs.YtidbneljichnhaaDoor.Plug
attribute [local go_sem] max2_int min2_int max_two min_two max_three min_three max_four min_four   -- for this text's walks alone
set_option linter.unusedVariables false
set_option linter.unusedSimpArgs false

attribute [local go_sem high] eqA24
/-! ### grommetlaw07_QuoteSingle: function 6 -/
def grommetlaw07_QuoteSingle.j0 : Nat → ByteArray → ByteArray → ByteArray → Bool → Option (Bool)
  | 0, _, _, _, _ => none
  | k + 1, x0, x1, x5, x33 => if x33 = true then ((grommetlaw07_alive.f).bind fun t105 => (some t105)) else (if x5.size + x1.size ≤ 9223372036854775807 then ((quote_Read.f (x5 ++ x1)).bind fun bt106 => (if bt106.1.toList = x0.toList then (if bt106.2.1 = (x5.size : Int) then (if (bt106.2.2.1 == 0 && (bt106.2.2.2 == 0)) = true then ((grommetlaw07_alive.f).bind fun t111 => (some t111)) else (some false)) else (some false)) else (some false))) else (none))
def grommetlaw07_QuoteSingle.f (k : Nat) (a0 : ByteArray) (a1 : ByteArray) : Option (Bool) := (quote_Single.f a0).bind fun bt101 => (if bt101.2 = 0 then (if a1.toList = ([] : List UInt8) then (grommetlaw07_QuoteSingle.j0 k a0 a1 bt101.1 false) else (if 0 < (a1.size : Int) then (grommetlaw07_QuoteSingle.j0 k a0 a1 bt101.1 ((bt a1 0) == 39)) else (none))) else (if bt101.1.toList = ([] : List UInt8) then ((quote_Simple.f k a0).bind fun t103 => (if t103 = true then (some false) else ((grommetlaw07_alive.f).bind fun t104 => (some t104)))) else (some false)))
theorem grommetlaw07_QuoteSingle.mono_l : ∀ k, (∀ y0 y1 y2 y3, LeO (grommetlaw07_QuoteSingle.j0 k y0 y1 y2 y3) (grommetlaw07_QuoteSingle.j0 (k + 1) y0 y1 y2 y3))
  | 0 => fun _ _ _ _ r h => by simp [grommetlaw07_QuoteSingle.j0] at h
  | k + 1 => by
    have ih0 := grommetlaw07_QuoteSingle.mono_l k
    · intro y0 y1 y2 y3
      unfold grommetlaw07_QuoteSingle.j0
      repeat' first
      | (with_reducible exact ih0 _ _ _ _)
      | (with_reducible exact quote_Simple.mono _ _)
      | (with_reducible exact LeO.refl _)
      | (with_reducible exact LeO.none _)
      | (with_reducible refine LeO.ite ?_ ?_)
      | (with_reducible refine LeO.bind ?_ (fun _ => ?_))
      | exact ih0 _ _ _ _
      | exact quote_Simple.mono _ _
      | exact LeO.none _
      | refine LeO.ite ?_ ?_
      | refine LeO.bind ?_ (fun _ => ?_)
theorem grommetlaw07_QuoteSingle.mono : ∀ a0 a1 k, LeO (grommetlaw07_QuoteSingle.f k a0 a1) (grommetlaw07_QuoteSingle.f (k + 1) a0 a1) := by
  intro a0 a1 k
  have ih0 := grommetlaw07_QuoteSingle.mono_l k
  unfold grommetlaw07_QuoteSingle.f
  repeat' first
      | (with_reducible exact ih0 _ _ _ _)
      | (with_reducible exact quote_Simple.mono _ _)
      | (with_reducible exact LeO.refl _)
      | (with_reducible exact LeO.none _)
      | (with_reducible refine LeO.ite ?_ ?_)
      | (with_reducible refine LeO.bind ?_ (fun _ => ?_))
      | exact ih0 _ _ _ _
      | exact quote_Simple.mono _ _
      | exact LeO.none _
      | refine LeO.ite ?_ ?_
      | refine LeO.bind ?_ (fun _ => ?_)
set_option maxHeartbeats 8000000 in
set_option maxRecDepth 100000 in
theorem grommetlaw07_QuoteSingle.calls (k : Nat) (a0 : ByteArray) (a1 : ByteArray) (r : Bool) (w : World) (hG : Glob.G w) (h : grommetlaw07_QuoteSingle.f k a0 a1 = some r) :
    Calls Tryd.prog 6 #[.string a0, .string a1] w fun e w' => e = .returned (.bool r) ∧ Below w.heap.size w w' := by
  have hu24 := Tryd.underlying24
  have HB := Aside0.mk (Below.refl w.heap.size w)
  have H : ((quote_Single.f a0).bind fun bt101 => (if bt101.2 = 0 then (if a1.toList = ([] : List UInt8) then (grommetlaw07_QuoteSingle.j0 k a0 a1 bt101.1 false) else (if 0 < (a1.size : Int) then (grommetlaw07_QuoteSingle.j0 k a0 a1 bt101.1 ((bt a1 0) == 39)) else (none))) else (if bt101.1.toList = ([] : List UInt8) then ((quote_Simple.f k a0).bind fun t103 => (if t103 = true then (some false) else ((grommetlaw07_alive.f).bind fun t104 => (some t104)))) else (some false)))) = some r := h
  clear h
  replace H := Option.bind_eq_some_iff.mp H
  obtain ⟨⟨t101, t102⟩, A30, H⟩ := H
  replace H : (if t102 = 0 then (if a1.toList = ([] : List UInt8) then (grommetlaw07_QuoteSingle.j0 k a0 a1 t101 false) else (if 0 < (a1.size : Int) then (grommetlaw07_QuoteSingle.j0 k a0 a1 t101 ((bt a1 0) == 39)) else (none))) else (if t101.toList = ([] : List UInt8) then ((quote_Simple.f k a0).bind fun t103 => (if t103 = true then (some false) else ((grommetlaw07_alive.f).bind fun t104 => (some t104)))) else (some false))) = some r := H
  have A3 := Aside0.mk A30
  clear A30
  by_cases c4 : t102 = 0
  · rw [if_pos c4] at H
    have c4b0 : (t102 == 0) = true := beq_iff_eq.mpr c4
    have c4b1 : (t102 != 0) = false := bne_eq_false_iff_eq.mpr c4
    clear c4
    have HC5 := Aside0.mk H
    clear H
    go_enter Tryd.func6, Tryd.ntmps6
    go_upto_region 4 with (first | ((with_reducible refine gate_callee (f := 14) rfl ?_); refine goesL_ (some 12) rfl rfl Tryd.func14 (by kernel_rfl) rfl #[.string a0] rfl (by (try simp only [List.map_toArray, List.map_cons, List.map_nil]); first | done | rfl | (simp only [List.length_drop, List.length_take]; rfl)) ?_; (with_reducible refine (quote_Single.calls a0 t101 t102 _ (hG.below (by first | ((repeat (first | (with_reducible first | exact HB.out | apply below_alloc | apply pw_below_drewN | apply below_drew1 | (refine Glob.below_set ?_ (by assumption) _ _ _)) | exact HB.out)); done) | (refine Drawn0.below ?_; repeat (first | exact Drawn0.refl _ | assumption | apply Drawn0.step)))) A3.out).mono ?_); rintro e w6 ⟨rfl, hb⟩; refine ⟨_, rfl, ?_⟩; have n0_ := Aside0.mk (below_step (by repeat (first | (with_reducible first | exact HB.out | apply below_alloc | apply pw_below_drewN | apply below_drew1) | exact HB.out)) hb); clear HB; have HB := n0_; clear n0_; (try clear hb); (try clear hb2); (try clear hk); (try clear hi)))
    (try simp only [Act.put, List.setIfInBounds_toArray, List.set_cons_zero, List.set_cons_succ])
    go_cut [33] (fun v33 wc => ∃ (kq : Nat) (x33_4 : Bool), v33 = .bool x33_4 ∧ Aside0 (grommetlaw07_QuoteSingle.j0 kq a0 a1 t101 x33_4 = some r) ∧ Aside0 (kq ≤ k) ∧ Aside0 (Below w.heap.size w wc))
    case first =>
      have H := HC5.out
      clear HC5
      by_cases c7 : a1.toList = ([] : List UInt8)
      · rw [if_pos c7] at H
        have c7b0 : (a1.toList == ([] : List UInt8)) = true := beq_iff_eq.mpr c7
        have c7b1 : (a1.toList != ([] : List UInt8)) = false := bne_eq_false_iff_eq.mpr c7
        clear c7
        (first | rw [c7b0] | (simp only [i64_w, i32_w]; rw [c7b0]) | skip)
        have H' := Aside0.mk H
        clear H
        go_wp2
        go_meet
        case rel => exact ⟨_, (false), (by first | rfl | (simp; done) | (simp [*]; done)), H', ⟨by first | omega | exact Nat.le_refl _⟩, ⟨by repeat (first | (with_reducible first | exact HB.out | apply below_alloc | apply pw_below_drewN | apply below_drew1) | exact HB.out)⟩⟩
      · rw [if_neg c7] at H
        have c7b0 : (a1.toList == ([] : List UInt8)) = false := beq_eq_false_iff_ne.mpr c7
        have c7b1 : (a1.toList != ([] : List UInt8)) = true := bne_iff_ne.mpr c7
        (first | rw [c7b0] | (simp only [i64_w, i32_w]; rw [c7b0]) | skip)
        by_cases c8 : 0 < (a1.size : Int)
        · rw [if_pos c8] at H
          have c8b0 : decide (0 < (a1.size : Int)) = true := decide_eq_true c8
          have c8b1 : decide (0 < a1.size) = true := decide_eq_true (by omega)
          clear c8
          have H' := Aside0.mk H
          clear H
          have p9 : 0 ≤ (0 : Int) := (by omega)
          have q9 : 0 < a1.size := (by have : (0 : Int) < (a1.size : Int) := of_decide_eq_true (by first | (with_reducible assumption) | assumption); omega)
          have hx9 : ∀ h : 0 < a1.size, ((a1[0]'h).toNat : Int) = bt a1 0 := bt_at a1 0
          clear p9
          have qi9 : (0 < (a1.size : Int)) = True := eq_true (of_decide_eq_true (by first | (with_reducible assumption) | assumption))
          replace q9 := eq_true q9
          go_wp2
          go_meet
          case rel => exact ⟨_, (((bt a1 0) == 39)), (by first | rfl | (simp; done) | (simp [*]; done)), H', ⟨by first | omega | exact Nat.le_refl _⟩, ⟨by repeat (first | (with_reducible first | exact HB.out | apply below_alloc | apply pw_below_drewN | apply below_drew1) | exact HB.out)⟩⟩
        · rw [if_neg c8] at H
          exact absurd H (by simp)
    case rest =>
      clear HC5
      try clear c1
      try clear p2
      try clear c4
      try clear c4b0
      try clear c4b1
      try clear c6
      try clear c7
      try clear c7b0
      try clear c7b1
      try clear c8
      try clear c8b0
      try clear c8b1
      try clear p9
      try clear q9
      try clear hx9
      try clear qi9
      try clear p9
      try clear q9
      obtain ⟨kq, x33_4, rfl, HA, HJ4, HB⟩ := hcut
      cases kq with
      | zero => exact absurd HA.out (by simp [grommetlaw07_QuoteSingle.j0])
      | succ kj4 =>
        have H := HA.out
        clear HA
        simp only [grommetlaw07_QuoteSingle.j0] at H
        by_cases c10 : x33_4 = true
        · subst c10
          have H1 : ((grommetlaw07_alive.f).bind fun t105 => (some t105)) = some r := by rw [if_pos rfl] at H; exact H
          clear H
          have H := H1
          clear H1
          replace H := Option.bind_eq_some_iff.mp H
          obtain ⟨t105, A110, H⟩ := H
          replace H : (some t105) = some r := H
          have A11 := Aside0.mk A110
          clear A110
          obtain rfl := Option.some.inj H
          go_wp2_with (first | ((with_reducible refine gate_callee (f := 10) rfl ?_); refine goesL_ (some 34) rfl rfl Tryd.func10 (by kernel_rfl) rfl #[] rfl (by (try simp only [List.map_toArray, List.map_cons, List.map_nil]); first | done | rfl | (simp only [List.length_drop, List.length_take]; rfl)) ?_; (with_reducible refine (grommetlaw07_alive.calls  t105 _ (hG.below (by first | ((repeat (first | (with_reducible first | exact HB.out | apply below_alloc | apply pw_below_drewN | apply below_drew1 | (refine Glob.below_set ?_ (by assumption) _ _ _)) | exact HB.out)); done) | (refine Drawn0.below ?_; repeat (first | exact Drawn0.refl _ | assumption | apply Drawn0.step)))) A11.out).mono ?_); rintro e w12 ⟨rfl, hb⟩; refine ⟨_, rfl, ?_⟩; have n0_ := Aside0.mk (below_step (by repeat (first | (with_reducible first | exact HB.out | apply below_alloc | apply pw_below_drewN | apply below_drew1) | exact HB.out)) hb); clear HB; have HB := n0_; clear n0_; (try clear hb); (try clear hb2); (try clear hk); (try clear hi)))
          go_ret
          exact ⟨by first | rfl | (simp [errW_none, errW_some] <;> rfl) | (simp [*, errW_none, errW_some] <;> rfl), by repeat (first | (with_reducible first | exact HB.out | apply below_alloc | apply pw_below_drewN | apply below_drew1) | exact HB.out)⟩
        · replace c10 := Bool.eq_false_iff.mpr c10
          subst c10
          have H1 : (if t101.size + a1.size ≤ 9223372036854775807 then ((quote_Read.f (t101 ++ a1)).bind fun bt106 => (if bt106.1.toList = a0.toList then (if bt106.2.1 = (t101.size : Int) then (if (bt106.2.2.1 == 0 && (bt106.2.2.2 == 0)) = true then ((grommetlaw07_alive.f).bind fun t111 => (some t111)) else (some false)) else (some false)) else (some false))) else (none)) = some r := by rw [if_neg (show ¬ (false = true) by decide)] at H; exact H
          clear H
          have H := H1
          clear H1
          by_cases c13 : t101.size + a1.size ≤ 9223372036854775807
          · rw [if_pos c13] at H
            have c13b0 := eq_true c13
            have c13b1 : decide (t101.size + a1.size ≤ 9223372036854775807) = true := decide_eq_true c13
            try have c13b2 : (9223372036854775807 < t101.size + a1.size) = False := eq_false (Nat.not_lt.2 c13)
            replace H := Option.bind_eq_some_iff.mp H
            obtain ⟨⟨t106, t107, t108, t109⟩, A140, H⟩ := H
            replace H : (if t106.toList = a0.toList then (if t107 = (t101.size : Int) then (if (t108 == 0 && (t109 == 0)) = true then ((grommetlaw07_alive.f).bind fun t111 => (some t111)) else (some false)) else (some false)) else (some false)) = some r := H
            have A14 := Aside0.mk A140
            clear A140
            by_cases c15 : t106.toList = a0.toList
            · rw [if_pos c15] at H
              have c15b0 : (t106.toList == a0.toList) = true := beq_iff_eq.mpr c15
              have c15b1 : (t106.toList != a0.toList) = false := bne_eq_false_iff_eq.mpr c15
              clear c15
              by_cases c16 : t107 = (t101.size : Int)
              · rw [if_pos c16] at H
                have c16b0 : (t107 == (t101.size : Int)) = true := beq_iff_eq.mpr c16
                have c16b1 : (t107 != (t101.size : Int)) = false := bne_eq_false_iff_eq.mpr c16
                clear c16
                by_cases c17 : (t108 == 0 && (t109 == 0)) = true
                · rw [if_pos c17] at H
                  have c17b0 : (t108 == 0 && (t109 == 0)) = true := c17
                  (try (have c17b1 : decide (t108 = 0 && (t109 == 0)) = true := by simpa using c17))
                  (try (have c17b2 : (t108 == 0 && (t109 == 0)) = true := by simpa using c17))
                  clear c17
                  replace H := Option.bind_eq_some_iff.mp H
                  obtain ⟨t111, A180, H⟩ := H
                  replace H : (some t111) = some r := H
                  have A18 := Aside0.mk A180
                  clear A180
                  obtain rfl := Option.some.inj H
                  go_wp2_with (first | ((with_reducible refine gate_callee (f := 8) rfl ?_); refine goesL_ (some 39) rfl rfl Tryd.func8 (by kernel_rfl) rfl #[.string (t101 ++ a1)] rfl (by (try simp only [List.map_toArray, List.map_cons, List.map_nil]); first | done | rfl | (simp only [List.length_drop, List.length_take]; rfl)) ?_; (with_reducible refine (quote_Read.calls (t101 ++ a1) t106 t107 t108 t109 _ (hG.below (by first | ((repeat (first | (with_reducible first | exact HB.out | apply below_alloc | apply pw_below_drewN | apply below_drew1 | (refine Glob.below_set ?_ (by assumption) _ _ _)) | exact HB.out)); done) | (refine Drawn0.below ?_; repeat (first | exact Drawn0.refl _ | assumption | apply Drawn0.step)))) A14.out).mono ?_); rintro e w19 ⟨rfl, hb⟩; refine ⟨_, rfl, ?_⟩; have n0_ := Aside0.mk (below_step (by repeat (first | (with_reducible first | exact HB.out | apply below_alloc | apply pw_below_drewN | apply below_drew1) | exact HB.out)) hb); clear HB; have HB := n0_; clear n0_; (try clear hb); (try clear hb2); (try clear hk); (try clear hi)) | ((with_reducible refine gate_dst (N := 9) rfl ?_); (try (refine gate_guard (by rfl) ?_; dsimp only)); refine box_event ?hg (N := 9) ?hd (cs := #[.int .i64 0, .int .i64 0]) (t := 24) ?hr ?_; (case hd => rfl); (case hg => rfl); (case hr => first | (go_simp; done) | (go_simp; rfl)); intro gb110 hg w20 hbox hb; have n0_ := Aside0.mk (below_step (by repeat (first | (with_reducible first | exact HB.out | apply below_alloc | apply pw_below_drewN | apply below_drew1) | exact HB.out)) hb); have n1_ := Aside0.mk (hbox); have n2_ := Aside0.mk ((by rw [hg]; exact (below_size (by repeat (first | (with_reducible first | exact HB.out | apply below_alloc | apply pw_below_drewN | apply below_drew1) | exact HB.out))) : w.heap.size ≤ gb110)); have n3_ := Aside0.mk ((by rw [hg]; exact (below_size (by repeat (first | (with_reducible first | exact HB.out | apply below_alloc | apply pw_below_drewN | apply below_drew1) | exact HB.out))) : w.heap.size ≤ gb110)); clear HB; have HB := n0_; have BK110 := n1_; have GW110 := n2_; have GE110 := n3_; clear n0_ n1_ n2_ n3_; clear hb hbox hg; have hcz21_0 : w20.cell? ⟨gb110, 0, none⟩ = some (.int .i64 0) := (blk_cell BK110.out 0).trans rfl; have hcz21_1 : w20.cell? ⟨gb110, 1, none⟩ = some (.int .i64 0) := (blk_cell BK110.out 1).trans rfl; have hfz21_0 := blk_frozen BK110.out 0; have hfz21_1 := blk_frozen BK110.out 1) | (go_at_call 10; (with_reducible refine (grommetlaw07_alive.calls  t111 _ (hG.below (by first | ((repeat (first | (with_reducible first | exact HB.out | apply below_alloc | apply pw_below_drewN | apply below_drew1 | (refine Glob.below_set ?_ (by assumption) _ _ _)) | exact HB.out)); done) | (refine Drawn0.below ?_; repeat (first | exact Drawn0.refl _ | assumption | apply Drawn0.step)))) A18.out).mono ?_); rintro e w22 ⟨rfl, hb⟩; have n0_ := Aside0.mk (blk_below (g := gb110) (o := .cells #[.int .i64 t108, .int .i64 t109] 24 (0, 0)) (by (with_reducible repeat (first | refine blk_drewN ?_ _ | refine blk_drew ?_ | refine blk_alloc ?_ _)); refine blk_put (cs := #[.int .i64 t108, .int .i64 0]) ?_ 1 _ rfl; (with_reducible repeat (first | refine blk_drewN ?_ _ | refine blk_drew ?_ | refine blk_alloc ?_ _)); refine blk_put (cs := #[.int .i64 0, .int .i64 0]) ?_ 0 _ rfl; (with_reducible repeat (first | refine blk_drewN ?_ _ | refine blk_drew ?_ | refine blk_alloc ?_ _)); exact BK110.out) hb); have n1_ := Aside0.mk (below_step (by repeat (first | (with_reducible first | exact HB.out | apply below_alloc | apply pw_below_drewN | apply below_drew1 | refine below_set ?_ GE110.out) | exact HB.out)) hb); clear BK110; clear HB; have BK110 := n0_; have HB := n1_; clear n0_ n1_; (try clear hb); (try clear hb2); (try clear hk); (try clear hi)))
                  go_ret
                  exact ⟨by first | rfl | (simp [errW_none, errW_some] <;> rfl) | (simp [*, errW_none, errW_some] <;> rfl), by repeat (first | (with_reducible first | exact HB.out | apply below_alloc | apply pw_below_drewN | apply below_drew1 | refine below_set ?_ GE110.out) | exact HB.out)⟩
                · rw [if_neg c17] at H
                  have c17b0 : (t108 == 0 && (t109 == 0)) = false := by simpa using c17
                  (try (have c17b1 : decide (t108 = 0 && (t109 == 0)) = false := by simpa using c17))
                  (try (have c17b2 : (t108 == 0 && (t109 == 0)) = false := by simpa using c17))
                  (try (have c17b3 : ¬ (t108 = 0 && (t109 == 0)) := by simpa using c17))
                  clear c17
                  obtain rfl := Option.some.inj H
                  go_wp2_with (first | ((with_reducible refine gate_callee (f := 8) rfl ?_); refine goesL_ (some 39) rfl rfl Tryd.func8 (by kernel_rfl) rfl #[.string (t101 ++ a1)] rfl (by (try simp only [List.map_toArray, List.map_cons, List.map_nil]); first | done | rfl | (simp only [List.length_drop, List.length_take]; rfl)) ?_; (with_reducible refine (quote_Read.calls (t101 ++ a1) t106 t107 t108 t109 _ (hG.below (by first | ((repeat (first | (with_reducible first | exact HB.out | apply below_alloc | apply pw_below_drewN | apply below_drew1 | (refine Glob.below_set ?_ (by assumption) _ _ _)) | exact HB.out)); done) | (refine Drawn0.below ?_; repeat (first | exact Drawn0.refl _ | assumption | apply Drawn0.step)))) A14.out).mono ?_); rintro e w23 ⟨rfl, hb⟩; refine ⟨_, rfl, ?_⟩; have n0_ := Aside0.mk (below_step (by repeat (first | (with_reducible first | exact HB.out | apply below_alloc | apply pw_below_drewN | apply below_drew1) | exact HB.out)) hb); clear HB; have HB := n0_; clear n0_; (try clear hb); (try clear hb2); (try clear hk); (try clear hi)) | ((with_reducible refine gate_dst (N := 9) rfl ?_); (try (refine gate_guard (by rfl) ?_; dsimp only)); refine box_event ?hg (N := 9) ?hd (cs := #[.int .i64 0, .int .i64 0]) (t := 24) ?hr ?_; (case hd => rfl); (case hg => rfl); (case hr => first | (go_simp; done) | (go_simp; rfl)); intro gb110 hg w24 hbox hb; have n0_ := Aside0.mk (below_step (by repeat (first | (with_reducible first | exact HB.out | apply below_alloc | apply pw_below_drewN | apply below_drew1) | exact HB.out)) hb); have n1_ := Aside0.mk (hbox); have n2_ := Aside0.mk ((by rw [hg]; exact (below_size (by repeat (first | (with_reducible first | exact HB.out | apply below_alloc | apply pw_below_drewN | apply below_drew1) | exact HB.out))) : w.heap.size ≤ gb110)); have n3_ := Aside0.mk ((by rw [hg]; exact (below_size (by repeat (first | (with_reducible first | exact HB.out | apply below_alloc | apply pw_below_drewN | apply below_drew1) | exact HB.out))) : w.heap.size ≤ gb110)); clear HB; have HB := n0_; have BK110 := n1_; have GW110 := n2_; have GE110 := n3_; clear n0_ n1_ n2_ n3_; clear hb hbox hg; have hcz25_0 : w24.cell? ⟨gb110, 0, none⟩ = some (.int .i64 0) := (blk_cell BK110.out 0).trans rfl; have hcz25_1 : w24.cell? ⟨gb110, 1, none⟩ = some (.int .i64 0) := (blk_cell BK110.out 1).trans rfl; have hfz25_0 := blk_frozen BK110.out 0; have hfz25_1 := blk_frozen BK110.out 1))
                  go_ret
                  exact ⟨by first | rfl | (simp [errW_none, errW_some] <;> rfl) | (simp [*, errW_none, errW_some] <;> rfl), by repeat (first | (with_reducible first | exact HB.out | apply below_alloc | apply pw_below_drewN | apply below_drew1 | refine below_set ?_ GE110.out) | exact HB.out)⟩
              · rw [if_neg c16] at H
                have c16b0 : (t107 == (t101.size : Int)) = false := beq_eq_false_iff_ne.mpr c16
                have c16b1 : (t107 != (t101.size : Int)) = true := bne_iff_ne.mpr c16
                obtain rfl := Option.some.inj H
                go_wp2_with (first | ((with_reducible refine gate_callee (f := 8) rfl ?_); refine goesL_ (some 39) rfl rfl Tryd.func8 (by kernel_rfl) rfl #[.string (t101 ++ a1)] rfl (by (try simp only [List.map_toArray, List.map_cons, List.map_nil]); first | done | rfl | (simp only [List.length_drop, List.length_take]; rfl)) ?_; (with_reducible refine (quote_Read.calls (t101 ++ a1) t106 t107 t108 t109 _ (hG.below (by first | ((repeat (first | (with_reducible first | exact HB.out | apply below_alloc | apply pw_below_drewN | apply below_drew1 | (refine Glob.below_set ?_ (by assumption) _ _ _)) | exact HB.out)); done) | (refine Drawn0.below ?_; repeat (first | exact Drawn0.refl _ | assumption | apply Drawn0.step)))) A14.out).mono ?_); rintro e w26 ⟨rfl, hb⟩; refine ⟨_, rfl, ?_⟩; have n0_ := Aside0.mk (below_step (by repeat (first | (with_reducible first | exact HB.out | apply below_alloc | apply pw_below_drewN | apply below_drew1) | exact HB.out)) hb); clear HB; have HB := n0_; clear n0_; (try clear hb); (try clear hb2); (try clear hk); (try clear hi)) | ((with_reducible refine gate_dst (N := 9) rfl ?_); (try (refine gate_guard (by rfl) ?_; dsimp only)); refine box_event ?hg (N := 9) ?hd (cs := #[.int .i64 0, .int .i64 0]) (t := 24) ?hr ?_; (case hd => rfl); (case hg => rfl); (case hr => first | (go_simp; done) | (go_simp; rfl)); intro gb110 hg w27 hbox hb; have n0_ := Aside0.mk (below_step (by repeat (first | (with_reducible first | exact HB.out | apply below_alloc | apply pw_below_drewN | apply below_drew1) | exact HB.out)) hb); have n1_ := Aside0.mk (hbox); have n2_ := Aside0.mk ((by rw [hg]; exact (below_size (by repeat (first | (with_reducible first | exact HB.out | apply below_alloc | apply pw_below_drewN | apply below_drew1) | exact HB.out))) : w.heap.size ≤ gb110)); have n3_ := Aside0.mk ((by rw [hg]; exact (below_size (by repeat (first | (with_reducible first | exact HB.out | apply below_alloc | apply pw_below_drewN | apply below_drew1) | exact HB.out))) : w.heap.size ≤ gb110)); clear HB; have HB := n0_; have BK110 := n1_; have GW110 := n2_; have GE110 := n3_; clear n0_ n1_ n2_ n3_; clear hb hbox hg; have hcz28_0 : w27.cell? ⟨gb110, 0, none⟩ = some (.int .i64 0) := (blk_cell BK110.out 0).trans rfl; have hcz28_1 : w27.cell? ⟨gb110, 1, none⟩ = some (.int .i64 0) := (blk_cell BK110.out 1).trans rfl; have hfz28_0 := blk_frozen BK110.out 0; have hfz28_1 := blk_frozen BK110.out 1))
                go_ret
                exact ⟨by first | rfl | (simp [errW_none, errW_some] <;> rfl) | (simp [*, errW_none, errW_some] <;> rfl), by repeat (first | (with_reducible first | exact HB.out | apply below_alloc | apply pw_below_drewN | apply below_drew1 | refine below_set ?_ GE110.out) | exact HB.out)⟩
            · rw [if_neg c15] at H
              have c15b0 : (t106.toList == a0.toList) = false := beq_eq_false_iff_ne.mpr c15
              have c15b1 : (t106.toList != a0.toList) = true := bne_iff_ne.mpr c15
              obtain rfl := Option.some.inj H
              go_wp2_with (first | ((with_reducible refine gate_callee (f := 8) rfl ?_); refine goesL_ (some 39) rfl rfl Tryd.func8 (by kernel_rfl) rfl #[.string (t101 ++ a1)] rfl (by (try simp only [List.map_toArray, List.map_cons, List.map_nil]); first | done | rfl | (simp only [List.length_drop, List.length_take]; rfl)) ?_; (with_reducible refine (quote_Read.calls (t101 ++ a1) t106 t107 t108 t109 _ (hG.below (by first | ((repeat (first | (with_reducible first | exact HB.out | apply below_alloc | apply pw_below_drewN | apply below_drew1 | (refine Glob.below_set ?_ (by assumption) _ _ _)) | exact HB.out)); done) | (refine Drawn0.below ?_; repeat (first | exact Drawn0.refl _ | assumption | apply Drawn0.step)))) A14.out).mono ?_); rintro e w29 ⟨rfl, hb⟩; refine ⟨_, rfl, ?_⟩; have n0_ := Aside0.mk (below_step (by repeat (first | (with_reducible first | exact HB.out | apply below_alloc | apply pw_below_drewN | apply below_drew1) | exact HB.out)) hb); clear HB; have HB := n0_; clear n0_; (try clear hb); (try clear hb2); (try clear hk); (try clear hi)) | ((with_reducible refine gate_dst (N := 9) rfl ?_); (try (refine gate_guard (by rfl) ?_; dsimp only)); refine box_event ?hg (N := 9) ?hd (cs := #[.int .i64 0, .int .i64 0]) (t := 24) ?hr ?_; (case hd => rfl); (case hg => rfl); (case hr => first | (go_simp; done) | (go_simp; rfl)); intro gb110 hg w30 hbox hb; have n0_ := Aside0.mk (below_step (by repeat (first | (with_reducible first | exact HB.out | apply below_alloc | apply pw_below_drewN | apply below_drew1) | exact HB.out)) hb); have n1_ := Aside0.mk (hbox); have n2_ := Aside0.mk ((by rw [hg]; exact (below_size (by repeat (first | (with_reducible first | exact HB.out | apply below_alloc | apply pw_below_drewN | apply below_drew1) | exact HB.out))) : w.heap.size ≤ gb110)); have n3_ := Aside0.mk ((by rw [hg]; exact (below_size (by repeat (first | (with_reducible first | exact HB.out | apply below_alloc | apply pw_below_drewN | apply below_drew1) | exact HB.out))) : w.heap.size ≤ gb110)); clear HB; have HB := n0_; have BK110 := n1_; have GW110 := n2_; have GE110 := n3_; clear n0_ n1_ n2_ n3_; clear hb hbox hg; have hcz31_0 : w30.cell? ⟨gb110, 0, none⟩ = some (.int .i64 0) := (blk_cell BK110.out 0).trans rfl; have hcz31_1 : w30.cell? ⟨gb110, 1, none⟩ = some (.int .i64 0) := (blk_cell BK110.out 1).trans rfl; have hfz31_0 := blk_frozen BK110.out 0; have hfz31_1 := blk_frozen BK110.out 1))
              go_ret
              exact ⟨by first | rfl | (simp [errW_none, errW_some] <;> rfl) | (simp [*, errW_none, errW_some] <;> rfl), by repeat (first | (with_reducible first | exact HB.out | apply below_alloc | apply pw_below_drewN | apply below_drew1 | refine below_set ?_ GE110.out) | exact HB.out)⟩
          · rw [if_neg c13] at H
            exact absurd H (by simp)
  · rw [if_neg c4] at H
    have c4b0 : (t102 == 0) = false := beq_eq_false_iff_ne.mpr c4
    have c4b1 : (t102 != 0) = true := bne_iff_ne.mpr c4
    by_cases c32 : t101.toList = ([] : List UInt8)
    · rw [if_pos c32] at H
      have c32b0 : (t101.toList == ([] : List UInt8)) = true := beq_iff_eq.mpr c32
      have c32b1 : (t101.toList != ([] : List UInt8)) = false := bne_eq_false_iff_eq.mpr c32
      clear c32
      replace H := Option.bind_eq_some_iff.mp H
      obtain ⟨t103, A330, H⟩ := H
      replace H : (if t103 = true then (some false) else ((grommetlaw07_alive.f).bind fun t104 => (some t104))) = some r := H
      have A33 := Aside0.mk A330
      clear A330
      by_cases c34 : t103 = true
      · subst c34
        have H1 : (some false) = some r := by rw [if_pos rfl] at H; exact H
        clear H
        have H := H1
        clear H1
        obtain rfl := Option.some.inj H
        go_enter Tryd.func6, Tryd.ntmps6
        go_wp2_with (first | ((with_reducible refine gate_callee (f := 14) rfl ?_); refine goesL_ (some 12) rfl rfl Tryd.func14 (by kernel_rfl) rfl #[.string a0] rfl (by (try simp only [List.map_toArray, List.map_cons, List.map_nil]); first | done | rfl | (simp only [List.length_drop, List.length_take]; rfl)) ?_; (with_reducible refine (quote_Single.calls a0 t101 t102 _ (hG.below (by first | ((repeat (first | (with_reducible first | exact HB.out | apply below_alloc | apply pw_below_drewN | apply below_drew1 | (refine Glob.below_set ?_ (by assumption) _ _ _)) | exact HB.out)); done) | (refine Drawn0.below ?_; repeat (first | exact Drawn0.refl _ | assumption | apply Drawn0.step)))) A3.out).mono ?_); rintro e w35 ⟨rfl, hb⟩; refine ⟨_, rfl, ?_⟩; have n0_ := Aside0.mk (below_step (by repeat (first | (with_reducible first | exact HB.out | apply below_alloc | apply pw_below_drewN | apply below_drew1) | exact HB.out)) hb); clear HB; have HB := n0_; clear n0_; (try clear hb); (try clear hb2); (try clear hk); (try clear hi)) | (go_at_call 15; (with_reducible refine (quote_Simple.calls k a0 true _ (hG.below (by first | ((repeat (first | (with_reducible first | exact HB.out | apply below_alloc | apply pw_below_drewN | apply below_drew1 | (refine Glob.below_set ?_ (by assumption) _ _ _)) | exact HB.out)); done) | (refine Drawn0.below ?_; repeat (first | exact Drawn0.refl _ | assumption | apply Drawn0.step)))) A33.out).mono ?_); rintro e w36 ⟨rfl, hb⟩; have n0_ := Aside0.mk (below_step (by repeat (first | (with_reducible first | exact HB.out | apply below_alloc | apply pw_below_drewN | apply below_drew1) | exact HB.out)) hb); clear HB; have HB := n0_; clear n0_; (try clear hb); (try clear hb2); (try clear hk); (try clear hi)))
        go_ret
        exact ⟨by first | rfl | (simp [errW_none, errW_some] <;> rfl) | (simp [*, errW_none, errW_some] <;> rfl), by repeat (first | (with_reducible first | exact HB.out | apply below_alloc | apply pw_below_drewN | apply below_drew1) | exact HB.out)⟩
      · replace c34 := Bool.eq_false_iff.mpr c34
        subst c34
        have H1 : ((grommetlaw07_alive.f).bind fun t104 => (some t104)) = some r := by rw [if_neg (show ¬ (false = true) by decide)] at H; exact H
        clear H
        have H := H1
        clear H1
        replace H := Option.bind_eq_some_iff.mp H
        obtain ⟨t104, A370, H⟩ := H
        replace H : (some t104) = some r := H
        have A37 := Aside0.mk A370
        clear A370
        obtain rfl := Option.some.inj H
        go_enter Tryd.func6, Tryd.ntmps6
        go_wp2_with (first | ((with_reducible refine gate_callee (f := 14) rfl ?_); refine goesL_ (some 12) rfl rfl Tryd.func14 (by kernel_rfl) rfl #[.string a0] rfl (by (try simp only [List.map_toArray, List.map_cons, List.map_nil]); first | done | rfl | (simp only [List.length_drop, List.length_take]; rfl)) ?_; (with_reducible refine (quote_Single.calls a0 t101 t102 _ (hG.below (by first | ((repeat (first | (with_reducible first | exact HB.out | apply below_alloc | apply pw_below_drewN | apply below_drew1 | (refine Glob.below_set ?_ (by assumption) _ _ _)) | exact HB.out)); done) | (refine Drawn0.below ?_; repeat (first | exact Drawn0.refl _ | assumption | apply Drawn0.step)))) A3.out).mono ?_); rintro e w38 ⟨rfl, hb⟩; refine ⟨_, rfl, ?_⟩; have n0_ := Aside0.mk (below_step (by repeat (first | (with_reducible first | exact HB.out | apply below_alloc | apply pw_below_drewN | apply below_drew1) | exact HB.out)) hb); clear HB; have HB := n0_; clear n0_; (try clear hb); (try clear hb2); (try clear hk); (try clear hi)) | (go_at_call 15; (with_reducible refine (quote_Simple.calls k a0 false _ (hG.below (by first | ((repeat (first | (with_reducible first | exact HB.out | apply below_alloc | apply pw_below_drewN | apply below_drew1 | (refine Glob.below_set ?_ (by assumption) _ _ _)) | exact HB.out)); done) | (refine Drawn0.below ?_; repeat (first | exact Drawn0.refl _ | assumption | apply Drawn0.step)))) A33.out).mono ?_); rintro e w39 ⟨rfl, hb⟩; have n0_ := Aside0.mk (below_step (by repeat (first | (with_reducible first | exact HB.out | apply below_alloc | apply pw_below_drewN | apply below_drew1) | exact HB.out)) hb); clear HB; have HB := n0_; clear n0_; (try clear hb); (try clear hb2); (try clear hk); (try clear hi)) | (go_at_call 10; (with_reducible refine (grommetlaw07_alive.calls  t104 _ (hG.below (by first | ((repeat (first | (with_reducible first | exact HB.out | apply below_alloc | apply pw_below_drewN | apply below_drew1 | (refine Glob.below_set ?_ (by assumption) _ _ _)) | exact HB.out)); done) | (refine Drawn0.below ?_; repeat (first | exact Drawn0.refl _ | assumption | apply Drawn0.step)))) A37.out).mono ?_); rintro e w40 ⟨rfl, hb⟩; have n0_ := Aside0.mk (below_step (by repeat (first | (with_reducible first | exact HB.out | apply below_alloc | apply pw_below_drewN | apply below_drew1) | exact HB.out)) hb); clear HB; have HB := n0_; clear n0_; (try clear hb); (try clear hb2); (try clear hk); (try clear hi)))
        go_ret
        exact ⟨by first | rfl | (simp [errW_none, errW_some] <;> rfl) | (simp [*, errW_none, errW_some] <;> rfl), by repeat (first | (with_reducible first | exact HB.out | apply below_alloc | apply pw_below_drewN | apply below_drew1) | exact HB.out)⟩
    · rw [if_neg c32] at H
      have c32b0 : (t101.toList == ([] : List UInt8)) = false := beq_eq_false_iff_ne.mpr c32
      have c32b1 : (t101.toList != ([] : List UInt8)) = true := bne_iff_ne.mpr c32
      obtain rfl := Option.some.inj H
      go_enter Tryd.func6, Tryd.ntmps6
      go_wp2_with (first | ((with_reducible refine gate_callee (f := 14) rfl ?_); refine goesL_ (some 12) rfl rfl Tryd.func14 (by kernel_rfl) rfl #[.string a0] rfl (by (try simp only [List.map_toArray, List.map_cons, List.map_nil]); first | done | rfl | (simp only [List.length_drop, List.length_take]; rfl)) ?_; (with_reducible refine (quote_Single.calls a0 t101 t102 _ (hG.below (by first | ((repeat (first | (with_reducible first | exact HB.out | apply below_alloc | apply pw_below_drewN | apply below_drew1 | (refine Glob.below_set ?_ (by assumption) _ _ _)) | exact HB.out)); done) | (refine Drawn0.below ?_; repeat (first | exact Drawn0.refl _ | assumption | apply Drawn0.step)))) A3.out).mono ?_); rintro e w41 ⟨rfl, hb⟩; refine ⟨_, rfl, ?_⟩; have n0_ := Aside0.mk (below_step (by repeat (first | (with_reducible first | exact HB.out | apply below_alloc | apply pw_below_drewN | apply below_drew1) | exact HB.out)) hb); clear HB; have HB := n0_; clear n0_; (try clear hb); (try clear hb2); (try clear hk); (try clear hi)))
      go_ret
      exact ⟨by first | rfl | (simp [errW_none, errW_some] <;> rfl) | (simp [*, errW_none, errW_some] <;> rfl), by repeat (first | (with_reducible first | exact HB.out | apply below_alloc | apply pw_below_drewN | apply below_drew1) | exact HB.out)⟩

end Go.Proofs.YtidbneljichnhaaDoor.PX

/- QuoteSingle's pure statement: for every two texts of at most a million bytes the law's Lean function answers true. -/
namespace Go.Proofs.YtidbneljichnhaaDoor.Pure
open Go.RowKit Go.Proofs.YtidbneljichnhaaDoor.PX Go.Proofs.YtidbneljichnhaaDoor.Plug Go.Proofs.YtidbneljichnhaaDoor.Utf Go.Proofs.YtidbneljichnhaaDoorW.PrintWords Go.Proofs.YtidbneljichnhaaDoorW.PrintLast
theorem QuoteSingle (s rest : ByteArray) (_hs : s.size ≤ 140737488351232) (_hr : rest.size ≤ 140737488351232) (hb : s.size + rest.size ≤ 1048576) : ∃ k, grommetlaw07_QuoteSingle.f k s rest = some true := by
  have hL := size_list s
  have hR := size_list rest
  refine ⟨s.size + 1 + 1, ?_⟩
  unfold grommetlaw07_QuoteSingle.f
  rw [single_of s (by omega), Option.bind_some]
  cases hc : simpB s.data.toList with
  | false =>
    rw [if_neg (show ¬ (false = true) by decide)]
    dsimp only
    rw [if_neg (by decide), if_pos (by rw [Lib.toList_data]), simple_of _ s (by omega) (by omega), Option.bind_some, hc, if_neg (by decide), alive]; rfl
  | true =>
    rw [if_pos rfl]
    dsimp only
    rw [if_pos rfl]
    have hd := dbl_len s.data.toList
    have hsl := singleB_len s.data.toList
    have hsz : (⟨(singleB s.data.toList).toArray⟩ : ByteArray).size = (singleB s.data.toList).length := rfl
    have hj : ∀ b, grommetlaw07_QuoteSingle.j0 (s.size + 1 + 1) s rest ⟨(singleB s.data.toList).toArray⟩ b = if b = true then some true else (quote_Read.f ((⟨(singleB s.data.toList).toArray⟩ : ByteArray) ++ rest)).bind fun bt106 => (if bt106.1.toList = s.toList then (if bt106.2.1 = ((⟨(singleB s.data.toList).toArray⟩ : ByteArray).size : Int) then (if (bt106.2.2.1 == 0 && (bt106.2.2.2 == 0)) = true then ((grommetlaw07_alive.f).bind fun t111 => (some t111)) else (some false)) else (some false)) else (some false)) := fun b => by
      rw [grommetlaw07_QuoteSingle.j0, alive, if_pos (show (⟨(singleB s.data.toList).toArray⟩ : ByteArray).size + rest.size ≤ 9223372036854775807 by rw [hsz]; omega)]; rfl
    have go : at_ rest.data.toList 0 ≠ 39 → (quote_Read.f ((⟨(singleB s.data.toList).toArray⟩ : ByteArray) ++ rest)).bind (fun bt106 => (if bt106.1.toList = s.toList then (if bt106.2.1 = ((⟨(singleB s.data.toList).toArray⟩ : ByteArray).size : Int) then (if (bt106.2.2.1 == 0 && (bt106.2.2.2 == 0)) = true then ((grommetlaw07_alive.f).bind fun t111 => (some t111)) else (some false)) else (some false)) else (some false))) = some true := fun h39 => by
      have happ : ((⟨(singleB s.data.toList).toArray⟩ : ByteArray) ++ rest).data.toList = singleB s.data.toList ++ rest.data.toList := by rw [app_bytes]
      rw [read_of _ (by rw [size_list, happ, List.length_append]; omega), happ, read_single _ hc _ h39, Option.bind_some]
      dsimp only
      rw [if_pos (by rw [Lib.toList_data]), if_pos (by rfl), if_pos (by rfl), alive]; rfl
    rw [Lib.toList_data]
    by_cases e : rest.data.toList = []
    · rw [if_pos e, hj, if_neg (by decide)]
      exact go (by rw [e]; decide)
    · have hp : 0 < rest.size := by rw [hR]; exact List.length_pos_iff.2 e
      have hz := bt_at_ rest 0
      rw [show ((0 : Nat) : Int) = 0 from rfl] at hz
      rw [if_neg e, if_pos (by omega), hj, hz]
      by_cases c : at_ rest.data.toList 0 = 39
      · rw [c]; rfl
      · rw [if_neg (by rw [beq_iff_eq]; omega)]
        exact go c
end Go.Proofs.YtidbneljichnhaaDoor.Pure

/- YtidbneljichnhaaDoorFGrommetlaw07QuoteCut: what print.py told of Go functions, for this claim. -/
namespace Go.Proofs.YtidbneljichnhaaDoor.PX
open Go.RowKit Go.Proofs.YtidbneljichnhaaDoorW.PrintWords Go.Proofs.YtidbneljichnhaaDoorW.PrintLast Go.Proofs.YtidbneljichnhaaDoorW.PrintMore Go.Proofs.YtidbneljichnhaaDoor Go.Proofs.YtidbneljichnhaaDoor.Plug
attribute [local go_sem] max2_int min2_int max_two min_two max_three min_three max_four min_four   -- for this text's walks alone
set_option linter.unusedVariables false
set_option linter.unusedSimpArgs false

attribute [local go_sem high] eqA24
/-! ### grommetlaw07_QuoteCut: function 7 -/
mutual
def grommetlaw07_QuoteCut.j0 : Nat → ByteArray → Bool → Int → ByteArray → Int → Option (Bool)
  | 0, _, _, _, _, _ => none
  | k + 1, x0, x1, x2, x7, x8 => if x8 = 0 then (grommetlaw07_QuoteCut.j1 k x0 x1 x2 x7 (decide ((x7.size : Int) < 2))) else (grommetlaw07_QuoteCut.j1 k x0 x1 x2 x7 true)
def grommetlaw07_QuoteCut.j1 : Nat → ByteArray → Bool → Int → ByteArray → Bool → Option (Bool)
  | 0, _, _, _, _, _ => none
  | k + 1, x0, x1, x2, x7, x31 => if x31 = true then ((grommetlaw07_alive.f).bind fun t105 => (some t105)) else (if (wrap64 ((x7.size : Int) - 1)) = 0 then (none) else (if 0 ≤ (wrap64 (1 + (Int.tmod (wrap64 ((wrap64 ((Int.tmod x2 (wrap64 ((x7.size : Int) - 1))) + (x7.size : Int))) - 1)) (wrap64 ((x7.size : Int) - 1))))) then (if (wrap64 (1 + (Int.tmod (wrap64 ((wrap64 ((Int.tmod x2 (wrap64 ((x7.size : Int) - 1))) + (x7.size : Int))) - 1)) (wrap64 ((x7.size : Int) - 1))))) ≤ (x7.size : Int) then ((utf_First.f (x7.extract ((wrap64 (1 + (Int.tmod (wrap64 ((wrap64 ((Int.tmod x2 (wrap64 ((x7.size : Int) - 1))) + (x7.size : Int))) - 1)) (wrap64 ((x7.size : Int) - 1))))) : Int).toNat x7.size)).bind fun bt106 => (if bt106.2 = 0 then (grommetlaw07_QuoteCut.j2 k x0 x1 (wrap64 (1 + (Int.tmod (wrap64 ((wrap64 ((Int.tmod x2 (wrap64 ((x7.size : Int) - 1))) + (x7.size : Int))) - 1)) (wrap64 ((x7.size : Int) - 1))))) x7 true) else (if (wrap64 (1 + (Int.tmod (wrap64 ((wrap64 ((Int.tmod x2 (wrap64 ((x7.size : Int) - 1))) + (x7.size : Int))) - 1)) (wrap64 ((x7.size : Int) - 1))))) < (x7.size : Int) then (grommetlaw07_QuoteCut.j2 k x0 x1 (wrap64 (1 + (Int.tmod (wrap64 ((wrap64 ((Int.tmod x2 (wrap64 ((x7.size : Int) - 1))) + (x7.size : Int))) - 1)) (wrap64 ((x7.size : Int) - 1))))) x7 ((Go.bits .and .u8 (bt x7 (wrap64 (1 + (Int.tmod (wrap64 ((wrap64 ((Int.tmod x2 (wrap64 ((x7.size : Int) - 1))) + (x7.size : Int))) - 1)) (wrap64 ((x7.size : Int) - 1)))))) 192) == 128)) else (none)))) else (none)) else (none)))
def grommetlaw07_QuoteCut.j2 : Nat → ByteArray → Bool → Int → ByteArray → Bool → Option (Bool)
  | 0, _, _, _, _, _ => none
  | k + 1, x0, x1, x2, x7, x62 => if x62 = true then ((grommetlaw07_alive.f).bind fun t108 => (some t108)) else (if 0 ≤ x2 then (if x2 ≤ (x7.size : Int) then ((quote_Read.f (x7.extract 0 (x2 : Int).toNat)).bind fun bt109 => (if (bt109.2.2.1 == 0 && (bt109.2.2.2 == 0)) = true then (if x1 = true then (some false) else (if bt109.2.1 = x2 then (if (bt109.1.size : Int) < (x0.size : Int) then (if 0 ≤ (bt109.1.size : Int) then (if (bt109.1.size : Int) ≤ (x0.size : Int) then (if (x0.extract 0 ((bt109.1.size : Int) : Int).toNat).toList = bt109.1.toList then (if (bt x0 (bt109.1.size : Int)) = 39 then ((grommetlaw07_alive.f).bind fun t114 => (some t114)) else (some false)) else (some false)) else (none)) else (none)) else (some false)) else (some false))) else (if (bt109.2.2.1 == 4 && (bt109.2.2.2 == x2)) = true then ((grommetlaw07_alive.f).bind fun t115 => (some t115)) else (some false)))) else (none)) else (none))
end
def grommetlaw07_QuoteCut.f (k : Nat) (a0 : ByteArray) (a1 : Bool) (a2 : Int) : Option (Bool) := (quote_Single.f a0).bind fun bt101 => (if a1 = true then ((quote_Double.f a0).bind fun bt103 => (grommetlaw07_QuoteCut.j0 k a0 a1 a2 bt103.1 bt103.2)) else (grommetlaw07_QuoteCut.j0 k a0 a1 a2 bt101.1 bt101.2))
theorem grommetlaw07_QuoteCut.mono_l : ∀ k, (∀ y0 y1 y2 y3 y4, LeO (grommetlaw07_QuoteCut.j0 k y0 y1 y2 y3 y4) (grommetlaw07_QuoteCut.j0 (k + 1) y0 y1 y2 y3 y4)) ∧ (∀ y0 y1 y2 y3 y4, LeO (grommetlaw07_QuoteCut.j1 k y0 y1 y2 y3 y4) (grommetlaw07_QuoteCut.j1 (k + 1) y0 y1 y2 y3 y4)) ∧ (∀ y0 y1 y2 y3 y4, LeO (grommetlaw07_QuoteCut.j2 k y0 y1 y2 y3 y4) (grommetlaw07_QuoteCut.j2 (k + 1) y0 y1 y2 y3 y4))
  | 0 => ⟨fun _ _ _ _ _ r h => by simp [grommetlaw07_QuoteCut.j0] at h, fun _ _ _ _ _ r h => by simp [grommetlaw07_QuoteCut.j1] at h, fun _ _ _ _ _ r h => by simp [grommetlaw07_QuoteCut.j2] at h⟩
  | k + 1 => by
    obtain ⟨ih0, ih1, ih2⟩ := grommetlaw07_QuoteCut.mono_l k
    refine ⟨?_, ?_, ?_⟩
    · intro y0 y1 y2 y3 y4
      unfold grommetlaw07_QuoteCut.j0
      repeat' first
      | (with_reducible exact ih0 _ _ _ _ _)
      | (with_reducible exact ih1 _ _ _ _ _)
      | (with_reducible exact ih2 _ _ _ _ _)
      | (with_reducible exact LeO.refl _)
      | (with_reducible exact LeO.none _)
      | (with_reducible refine LeO.ite ?_ ?_)
      | (with_reducible refine LeO.bind ?_ (fun _ => ?_))
      | exact ih0 _ _ _ _ _
      | exact ih1 _ _ _ _ _
      | exact ih2 _ _ _ _ _
      | exact LeO.none _
      | refine LeO.ite ?_ ?_
      | refine LeO.bind ?_ (fun _ => ?_)
    · intro y0 y1 y2 y3 y4
      unfold grommetlaw07_QuoteCut.j1
      repeat' first
      | (with_reducible exact ih0 _ _ _ _ _)
      | (with_reducible exact ih1 _ _ _ _ _)
      | (with_reducible exact ih2 _ _ _ _ _)
      | (with_reducible exact LeO.refl _)
      | (with_reducible exact LeO.none _)
      | (with_reducible refine LeO.ite ?_ ?_)
      | (with_reducible refine LeO.bind ?_ (fun _ => ?_))
      | exact ih0 _ _ _ _ _
      | exact ih1 _ _ _ _ _
      | exact ih2 _ _ _ _ _
      | exact LeO.none _
      | refine LeO.ite ?_ ?_
      | refine LeO.bind ?_ (fun _ => ?_)
    · intro y0 y1 y2 y3 y4
      unfold grommetlaw07_QuoteCut.j2
      repeat' first
      | (with_reducible exact ih0 _ _ _ _ _)
      | (with_reducible exact ih1 _ _ _ _ _)
      | (with_reducible exact ih2 _ _ _ _ _)
      | (with_reducible exact LeO.refl _)
      | (with_reducible exact LeO.none _)
      | (with_reducible refine LeO.ite ?_ ?_)
      | (with_reducible refine LeO.bind ?_ (fun _ => ?_))
      | exact ih0 _ _ _ _ _
      | exact ih1 _ _ _ _ _
      | exact ih2 _ _ _ _ _
      | exact LeO.none _
      | refine LeO.ite ?_ ?_
      | refine LeO.bind ?_ (fun _ => ?_)
theorem grommetlaw07_QuoteCut.mono : ∀ a0 a1 a2 k, LeO (grommetlaw07_QuoteCut.f k a0 a1 a2) (grommetlaw07_QuoteCut.f (k + 1) a0 a1 a2) := by
  intro a0 a1 a2 k
  obtain ⟨ih0, ih1, ih2⟩ := grommetlaw07_QuoteCut.mono_l k
  unfold grommetlaw07_QuoteCut.f
  repeat' first
      | (with_reducible exact ih0 _ _ _ _ _)
      | (with_reducible exact ih1 _ _ _ _ _)
      | (with_reducible exact ih2 _ _ _ _ _)
      | (with_reducible exact LeO.refl _)
      | (with_reducible exact LeO.none _)
      | (with_reducible refine LeO.ite ?_ ?_)
      | (with_reducible refine LeO.bind ?_ (fun _ => ?_))
      | exact ih0 _ _ _ _ _
      | exact ih1 _ _ _ _ _
      | exact ih2 _ _ _ _ _
      | exact LeO.none _
      | refine LeO.ite ?_ ?_
      | refine LeO.bind ?_ (fun _ => ?_)
set_option maxHeartbeats 8000000 in
set_option maxRecDepth 100000 in
theorem grommetlaw07_QuoteCut.calls (k : Nat) (a0 : ByteArray) (a1 : Bool) (a2 : Int) (r : Bool) (w : World) (hG : Glob.G w) (h : grommetlaw07_QuoteCut.f k a0 a1 a2 = some r) :
    Calls Tryd.prog 7 #[.string a0, .bool a1, .int .i64 a2] w fun e w' => e = .returned (.bool r) ∧ Below w.heap.size w w' := by
  have hu24 := Tryd.underlying24
  have HB := Aside0.mk (Below.refl w.heap.size w)
  have H : ((quote_Single.f a0).bind fun bt101 => (if a1 = true then ((quote_Double.f a0).bind fun bt103 => (grommetlaw07_QuoteCut.j0 k a0 a1 a2 bt103.1 bt103.2)) else (grommetlaw07_QuoteCut.j0 k a0 a1 a2 bt101.1 bt101.2))) = some r := h
  clear h
  replace H := Option.bind_eq_some_iff.mp H
  obtain ⟨⟨t101, t102⟩, A40, H⟩ := H
  replace H : (if a1 = true then ((quote_Double.f a0).bind fun bt103 => (grommetlaw07_QuoteCut.j0 k a0 a1 a2 bt103.1 bt103.2)) else (grommetlaw07_QuoteCut.j0 k a0 a1 a2 t101 t102)) = some r := H
  have A4 := Aside0.mk A40
  clear A40
  have HC5 := Aside0.mk H
  clear H
  go_enter Tryd.func7, Tryd.ntmps7
  go_upto_if 19 with (first | ((with_reducible refine gate_callee (f := 14) rfl ?_); refine goesL_ (some 16) rfl rfl Tryd.func14 (by kernel_rfl) rfl #[.string a0] rfl (by (try simp only [List.map_toArray, List.map_cons, List.map_nil]); first | done | rfl | (simp only [List.length_drop, List.length_take]; rfl)) ?_; (with_reducible refine (quote_Single.calls a0 t101 t102 _ (hG.below (by first | ((repeat (first | (with_reducible first | exact HB.out | apply below_alloc | apply pw_below_drewN | apply below_drew1 | (refine Glob.below_set ?_ (by assumption) _ _ _)) | exact HB.out)); done) | (refine Drawn0.below ?_; repeat (first | exact Drawn0.refl _ | assumption | apply Drawn0.step)))) A4.out).mono ?_); rintro e w6 ⟨rfl, hb⟩; refine ⟨_, rfl, ?_⟩; have n0_ := Aside0.mk (below_step (by repeat (first | (with_reducible first | exact HB.out | apply below_alloc | apply pw_below_drewN | apply below_drew1) | exact HB.out)) hb); clear HB; have HB := n0_; clear n0_; (try clear hb); (try clear hb2); (try clear hk); (try clear hi)))
  (try simp only [Act.put, List.setIfInBounds_toArray, List.set_cons_zero, List.set_cons_succ])
  go_cut [7, 8] (fun v7 v8 wc => ∃ (kq : Nat) (x7_4 : ByteArray) (x8_4 : Int), v7 = .string x7_4 ∧ v8 = .int .i64 x8_4 ∧ Aside0 (grommetlaw07_QuoteCut.j0 kq a0 a1 a2 x7_4 x8_4 = some r) ∧ Aside0 (kq ≤ k) ∧ Aside0 (Below w.heap.size w wc))
  case first =>
    have H := HC5.out
    clear HC5
    by_cases c7 : a1 = true
    · subst c7
      have H1 : ((quote_Double.f a0).bind fun bt103 => (grommetlaw07_QuoteCut.j0 k a0 true a2 bt103.1 bt103.2)) = some r := by rw [if_pos rfl] at H; exact H
      clear H
      have H := H1
      clear H1
      replace H := Option.bind_eq_some_iff.mp H
      obtain ⟨⟨t103, t104⟩, A80, H⟩ := H
      replace H : (grommetlaw07_QuoteCut.j0 k a0 true a2 t103 t104) = some r := H
      have A8 := Aside0.mk A80
      clear A80
      have H' := Aside0.mk H
      clear H
      go_wp2_with (first | ((with_reducible refine gate_callee (f := 11) rfl ?_); refine goesL_ (some 22) rfl rfl Tryd.func11 (by kernel_rfl) rfl #[.string a0] rfl (by (try simp only [List.map_toArray, List.map_cons, List.map_nil]); first | done | rfl | (simp only [List.length_drop, List.length_take]; rfl)) ?_; (with_reducible refine (quote_Double.calls a0 t103 t104 _ (hG.below (by first | ((repeat (first | (with_reducible first | exact HB.out | apply below_alloc | apply pw_below_drewN | apply below_drew1 | (refine Glob.below_set ?_ (by assumption) _ _ _)) | exact HB.out)); done) | (refine Drawn0.below ?_; repeat (first | exact Drawn0.refl _ | assumption | apply Drawn0.step)))) A8.out).mono ?_); rintro e w9 ⟨rfl, hb⟩; refine ⟨_, rfl, ?_⟩; have n0_ := Aside0.mk (below_step (by repeat (first | (with_reducible first | exact HB.out | apply below_alloc | apply pw_below_drewN | apply below_drew1) | exact HB.out)) hb); clear HB; have HB := n0_; clear n0_; (try clear hb); (try clear hb2); (try clear hk); (try clear hi)))
      go_meet
      case rel => exact ⟨_, (t103), (t104), (by first | rfl | (simp; done) | (simp [*]; done)), (by first | rfl | (simp; done) | (simp [*]; done)), H', ⟨by first | omega | exact Nat.le_refl _⟩, ⟨by repeat (first | (with_reducible first | exact HB.out | apply below_alloc | apply pw_below_drewN | apply below_drew1) | exact HB.out)⟩⟩
    · replace c7 := Bool.eq_false_iff.mpr c7
      subst c7
      have H1 : (grommetlaw07_QuoteCut.j0 k a0 false a2 t101 t102) = some r := by rw [if_neg (show ¬ (false = true) by decide)] at H; exact H
      clear H
      have H := H1
      clear H1
      have H' := Aside0.mk H
      clear H
      go_wp2
      go_meet
      case rel => exact ⟨_, (t101), (t102), (by first | rfl | (simp; done) | (simp [*]; done)), (by first | rfl | (simp; done) | (simp [*]; done)), H', ⟨by first | omega | exact Nat.le_refl _⟩, ⟨by repeat (first | (with_reducible first | exact HB.out | apply below_alloc | apply pw_below_drewN | apply below_drew1) | exact HB.out)⟩⟩
  case rest =>
    clear HC5
    try clear c1
    try clear p2
    try clear c7
    obtain ⟨kq, x7_4, x8_4, rfl, rfl, HA, HJ4, HB⟩ := hcut
    cases kq with
    | zero => exact absurd HA.out (by simp [grommetlaw07_QuoteCut.j0])
    | succ kj4 =>
      have H := HA.out
      clear HA
      simp only [grommetlaw07_QuoteCut.j0] at H
      have HC10 := Aside0.mk H
      clear H
      go_upto_region 4 with (fail)
      go_cut [31] (fun v31 wc => ∃ (kq : Nat) (x31_9 : Bool), v31 = .bool x31_9 ∧ Aside0 (grommetlaw07_QuoteCut.j1 kq a0 a1 a2 x7_4 x31_9 = some r) ∧ Aside0 (kq ≤ kj4) ∧ Aside0 (Below w.heap.size w wc))
      case first =>
        have H := HC10.out
        clear HC10
        by_cases c11 : x8_4 = 0
        · rw [if_pos c11] at H
          have c11b0 : (x8_4 == 0) = true := beq_iff_eq.mpr c11
          have c11b1 : (x8_4 != 0) = false := bne_eq_false_iff_eq.mpr c11
          clear c11
          (first | rw [c11b0] | (simp only [i64_w, i32_w]; rw [c11b0]) | skip)
          have H' := Aside0.mk H
          clear H
          go_wp2
          go_meet
          case rel => exact ⟨_, (decide ((x7_4.size : Int) < 2)), (by first | rfl | (simp; done) | (simp [*]; done)), H', ⟨by have := HJ4.out; first | omega | exact Nat.le_refl _⟩, ⟨by repeat (first | (with_reducible first | exact HB.out | apply below_alloc | apply pw_below_drewN | apply below_drew1) | exact HB.out)⟩⟩
        · rw [if_neg c11] at H
          have c11b0 : (x8_4 == 0) = false := beq_eq_false_iff_ne.mpr c11
          have c11b1 : (x8_4 != 0) = true := bne_iff_ne.mpr c11
          (first | rw [c11b0] | (simp only [i64_w, i32_w]; rw [c11b0]) | skip)
          have H' := Aside0.mk H
          clear H
          go_wp2
          go_meet
          case rel => exact ⟨_, (true), (by first | rfl | (simp; done) | (simp [*]; done)), H', ⟨by have := HJ4.out; first | omega | exact Nat.le_refl _⟩, ⟨by repeat (first | (with_reducible first | exact HB.out | apply below_alloc | apply pw_below_drewN | apply below_drew1) | exact HB.out)⟩⟩
      case rest =>
        clear HC10
        try clear c1
        try clear p2
        try clear c7
        try clear c11
        try clear c11b0
        try clear c11b1
        try clear p2
        obtain ⟨kq, x31_9, rfl, HA, HJ9, HB⟩ := hcut
        cases kq with
        | zero => exact absurd HA.out (by simp [grommetlaw07_QuoteCut.j1])
        | succ kj9 =>
          have H := HA.out
          clear HA
          simp only [grommetlaw07_QuoteCut.j1] at H
          by_cases c12 : x31_9 = true
          · subst c12
            have H1 : ((grommetlaw07_alive.f).bind fun t105 => (some t105)) = some r := by rw [if_pos rfl] at H; exact H
            clear H
            have H := H1
            clear H1
            replace H := Option.bind_eq_some_iff.mp H
            obtain ⟨t105, A130, H⟩ := H
            replace H : (some t105) = some r := H
            have A13 := Aside0.mk A130
            clear A130
            obtain rfl := Option.some.inj H
            go_wp2_with (first | ((with_reducible refine gate_callee (f := 10) rfl ?_); refine goesL_ (some 32) rfl rfl Tryd.func10 (by kernel_rfl) rfl #[] rfl (by (try simp only [List.map_toArray, List.map_cons, List.map_nil]); first | done | rfl | (simp only [List.length_drop, List.length_take]; rfl)) ?_; (with_reducible refine (grommetlaw07_alive.calls  t105 _ (hG.below (by first | ((repeat (first | (with_reducible first | exact HB.out | apply below_alloc | apply pw_below_drewN | apply below_drew1 | (refine Glob.below_set ?_ (by assumption) _ _ _)) | exact HB.out)); done) | (refine Drawn0.below ?_; repeat (first | exact Drawn0.refl _ | assumption | apply Drawn0.step)))) A13.out).mono ?_); rintro e w14 ⟨rfl, hb⟩; refine ⟨_, rfl, ?_⟩; have n0_ := Aside0.mk (below_step (by repeat (first | (with_reducible first | exact HB.out | apply below_alloc | apply pw_below_drewN | apply below_drew1) | exact HB.out)) hb); clear HB; have HB := n0_; clear n0_; (try clear hb); (try clear hb2); (try clear hk); (try clear hi)))
            go_ret
            exact ⟨by first | rfl | (simp [errW_none, errW_some] <;> rfl) | (simp [*, errW_none, errW_some] <;> rfl), by repeat (first | (with_reducible first | exact HB.out | apply below_alloc | apply pw_below_drewN | apply below_drew1) | exact HB.out)⟩
          · replace c12 := Bool.eq_false_iff.mpr c12
            subst c12
            have H1 : (if (wrap64 ((x7_4.size : Int) - 1)) = 0 then (none) else (if 0 ≤ (wrap64 (1 + (Int.tmod (wrap64 ((wrap64 ((Int.tmod a2 (wrap64 ((x7_4.size : Int) - 1))) + (x7_4.size : Int))) - 1)) (wrap64 ((x7_4.size : Int) - 1))))) then (if (wrap64 (1 + (Int.tmod (wrap64 ((wrap64 ((Int.tmod a2 (wrap64 ((x7_4.size : Int) - 1))) + (x7_4.size : Int))) - 1)) (wrap64 ((x7_4.size : Int) - 1))))) ≤ (x7_4.size : Int) then ((utf_First.f (x7_4.extract ((wrap64 (1 + (Int.tmod (wrap64 ((wrap64 ((Int.tmod a2 (wrap64 ((x7_4.size : Int) - 1))) + (x7_4.size : Int))) - 1)) (wrap64 ((x7_4.size : Int) - 1))))) : Int).toNat x7_4.size)).bind fun bt106 => (if bt106.2 = 0 then (grommetlaw07_QuoteCut.j2 kj9 a0 a1 (wrap64 (1 + (Int.tmod (wrap64 ((wrap64 ((Int.tmod a2 (wrap64 ((x7_4.size : Int) - 1))) + (x7_4.size : Int))) - 1)) (wrap64 ((x7_4.size : Int) - 1))))) x7_4 true) else (if (wrap64 (1 + (Int.tmod (wrap64 ((wrap64 ((Int.tmod a2 (wrap64 ((x7_4.size : Int) - 1))) + (x7_4.size : Int))) - 1)) (wrap64 ((x7_4.size : Int) - 1))))) < (x7_4.size : Int) then (grommetlaw07_QuoteCut.j2 kj9 a0 a1 (wrap64 (1 + (Int.tmod (wrap64 ((wrap64 ((Int.tmod a2 (wrap64 ((x7_4.size : Int) - 1))) + (x7_4.size : Int))) - 1)) (wrap64 ((x7_4.size : Int) - 1))))) x7_4 ((Go.bits .and .u8 (bt x7_4 (wrap64 (1 + (Int.tmod (wrap64 ((wrap64 ((Int.tmod a2 (wrap64 ((x7_4.size : Int) - 1))) + (x7_4.size : Int))) - 1)) (wrap64 ((x7_4.size : Int) - 1)))))) 192) == 128)) else (none)))) else (none)) else (none))) = some r := by rw [if_neg (show ¬ (false = true) by decide)] at H; exact H
            clear H
            have H := H1
            clear H1
            by_cases c15 : (wrap64 ((x7_4.size : Int) - 1)) = 0
            · rw [if_pos c15] at H
              exact absurd H (by simp)
            · rw [if_neg c15] at H
              have c15b0 : ((wrap64 ((x7_4.size : Int) - 1)) == 0) = false := beq_eq_false_iff_ne.mpr c15
              have c15b1 : ((wrap64 ((x7_4.size : Int) - 1)) != 0) = true := bne_iff_ne.mpr c15
              obtain ⟨ji16, hji16⟩ : ∃ j_ : Int, (wrap64 (1 + (Int.tmod (wrap64 ((wrap64 ((Int.tmod a2 (wrap64 ((x7_4.size : Int) - 1))) + (x7_4.size : Int))) - 1)) (wrap64 ((x7_4.size : Int) - 1))))) = j_ := ⟨_, rfl⟩
              replace H : (if 0 ≤ (ji16) then (if (ji16) ≤ (x7_4.size : Int) then ((utf_First.f (x7_4.extract ((ji16) : Int).toNat x7_4.size)).bind fun bt106 => (if bt106.2 = 0 then (grommetlaw07_QuoteCut.j2 kj9 a0 a1 ji16 x7_4 true) else (if (ji16) < (x7_4.size : Int) then (grommetlaw07_QuoteCut.j2 kj9 a0 a1 ji16 x7_4 ((Go.bits .and .u8 (bt x7_4 (ji16)) 192) == 128)) else (none)))) else (none)) else (none)) = some r := by first | (rw [hji16] at H; exact H) | (simp only [hji16] at H ⊢; exact H)
              have hji16w : (IntKind.i64.wrap (1 + (Int.tmod (wrap64 ((wrap64 ((Int.tmod a2 (wrap64 ((x7_4.size : Int) - 1))) + (x7_4.size : Int))) - 1)) (wrap64 ((x7_4.size : Int) - 1))))) = ji16 := (i64_w _).trans hji16
              by_cases c17 : 0 ≤ (ji16)
              · rw [if_pos c17] at H
                have c17b0 := eq_true c17
                have c17b1 : decide (0 ≤ (ji16)) = true := decide_eq_true c17
                clear c17
                by_cases c18 : (ji16) ≤ (x7_4.size : Int)
                · rw [if_pos c18] at H
                  have c18b0 := eq_true c18
                  have c18b1 : decide ((ji16) ≤ (x7_4.size : Int)) = true := decide_eq_true c18
                  clear c18
                  replace H := Option.bind_eq_some_iff.mp H
                  obtain ⟨⟨t106, t107⟩, A190, H⟩ := H
                  replace H : (if t107 = 0 then (grommetlaw07_QuoteCut.j2 kj9 a0 a1 ji16 x7_4 true) else (if (ji16) < (x7_4.size : Int) then (grommetlaw07_QuoteCut.j2 kj9 a0 a1 ji16 x7_4 ((Go.bits .and .u8 (bt x7_4 (ji16)) 192) == 128)) else (none))) = some r := H
                  have A19 := Aside0.mk A190
                  clear A190
                  have HC20 := Aside0.mk H
                  clear H
                  go_upto_region 8 with (first | ((with_reducible refine gate_callee (f := 16) rfl ?_); refine goesL_ (some 51) rfl rfl Tryd.func16 (by kernel_rfl) rfl #[.string (x7_4.extract ((ji16) : Int).toNat x7_4.size)] rfl (by (try simp only [List.map_toArray, List.map_cons, List.map_nil]); first | done | (simp only [hji16]; rfl) | rfl | (simp only [List.length_drop, List.length_take]; rfl)) ?_; (with_reducible refine (utf_First.calls (x7_4.extract ((ji16) : Int).toNat x7_4.size) t106 t107 _ (hG.below (by first | ((repeat (first | (with_reducible first | exact HB.out | apply below_alloc | apply pw_below_drewN | apply below_drew1 | (refine Glob.below_set ?_ (by assumption) _ _ _)) | exact HB.out)); done) | (refine Drawn0.below ?_; repeat (first | exact Drawn0.refl _ | assumption | apply Drawn0.step)))) A19.out).mono ?_); rintro e w21 ⟨rfl, hb⟩; refine ⟨_, rfl, ?_⟩; have n0_ := Aside0.mk (below_step (by repeat (first | (with_reducible first | exact HB.out | apply below_alloc | apply pw_below_drewN | apply below_drew1) | exact HB.out)) hb); clear HB; have HB := n0_; clear n0_; (try clear hb); (try clear hb2); (try clear hk); (try clear hi)))
                  (try simp only [Act.put, List.setIfInBounds_toArray, List.set_cons_zero, List.set_cons_succ])
                  go_cut [62] (fun v62 wc => ∃ (kq : Nat) (x62_19 : Bool), v62 = .bool x62_19 ∧ Aside0 (grommetlaw07_QuoteCut.j2 kq a0 a1 ji16 x7_4 x62_19 = some r) ∧ Aside0 (kq ≤ kj9) ∧ Aside0 (Below w.heap.size w wc))
                  case first =>
                    have H := HC20.out
                    clear HC20
                    by_cases c22 : t107 = 0
                    · rw [if_pos c22] at H
                      have c22b0 : (t107 == 0) = true := beq_iff_eq.mpr c22
                      have c22b1 : (t107 != 0) = false := bne_eq_false_iff_eq.mpr c22
                      clear c22
                      (first | rw [c22b0] | (simp only [i64_w, i32_w]; rw [c22b0]) | skip)
                      have H' := Aside0.mk H
                      clear H
                      go_wp2
                      go_meet
                      case rel => exact ⟨_, (true), (by first | rfl | (simp; done) | (simp [*]; done)), H', ⟨by have := HJ4.out; have := HJ9.out; first | omega | exact Nat.le_refl _⟩, ⟨by repeat (first | (with_reducible first | exact HB.out | apply below_alloc | apply pw_below_drewN | apply below_drew1) | exact HB.out)⟩⟩
                    · rw [if_neg c22] at H
                      have c22b0 : (t107 == 0) = false := beq_eq_false_iff_ne.mpr c22
                      have c22b1 : (t107 != 0) = true := bne_iff_ne.mpr c22
                      (first | rw [c22b0] | (simp only [i64_w, i32_w]; rw [c22b0]) | skip)
                      by_cases c23 : (ji16) < (x7_4.size : Int)
                      · rw [if_pos c23] at H
                        have c23b0 : decide ((ji16) < (x7_4.size : Int)) = true := decide_eq_true c23
                        clear c23
                        have H' := Aside0.mk H
                        clear H
                        have p24 : 0 ≤ ((ji16) : Int) := of_decide_eq_true (by first | (with_reducible assumption) | assumption)
                        have q24 : (ji16) < (x7_4.size : Int) := of_decide_eq_true (by first | (with_reducible assumption) | assumption)
                        have hx24 := bt_at x7_4 (ji16)
                        replace p24 := eq_true p24
                        replace q24 := eq_true q24
                        go_wp2
                        go_meet
                        case rel => exact ⟨_, (((Go.bits .and .u8 (bt x7_4 (ji16)) 192) == 128)), (by first | rfl | (simp; done) | (simp only [← hji16] <;> (first | rfl | simp)) | (simp [*]; done)), H', ⟨by have := HJ4.out; have := HJ9.out; first | omega | exact Nat.le_refl _⟩, ⟨by repeat (first | (with_reducible first | exact HB.out | apply below_alloc | apply pw_below_drewN | apply below_drew1) | exact HB.out)⟩⟩
                      · rw [if_neg c23] at H
                        exact absurd H (by simp)
                  case rest =>
                    clear HC20
                    try clear c1
                    try clear c2
                    try clear p2
                    try clear q2
                    try clear hx2
                    try clear p6
                    try clear c7
                    try clear c10
                    try clear c11
                    try clear c11b0
                    try clear c11b1
                    try clear c12
                    try clear c14
                    try clear c15
                    try clear c15b0
                    try clear c15b1
                    try clear c16
                    try clear c17
                    try clear c17b0
                    try clear c17b1
                    try clear c18
                    try clear c18b0
                    try clear c18b1
                    try clear c22
                    try clear c22b0
                    try clear c22b1
                    try clear c23
                    try clear c23b0
                    try clear p24
                    try clear q24
                    try clear hx24
                    try clear p2
                    try clear p24
                    try clear q24
                    obtain ⟨kq, x62_19, rfl, HA, HJ19, HB⟩ := hcut
                    cases kq with
                    | zero => exact absurd HA.out (by simp [grommetlaw07_QuoteCut.j2])
                    | succ kj19 =>
                      have H := HA.out
                      clear HA
                      simp only [grommetlaw07_QuoteCut.j2] at H
                      by_cases c25 : x62_19 = true
                      · subst c25
                        have H1 : ((grommetlaw07_alive.f).bind fun t108 => (some t108)) = some r := by rw [if_pos rfl] at H; exact H
                        clear H
                        have H := H1
                        clear H1
                        replace H := Option.bind_eq_some_iff.mp H
                        obtain ⟨t108, A260, H⟩ := H
                        replace H : (some t108) = some r := H
                        have A26 := Aside0.mk A260
                        clear A260
                        obtain rfl := Option.some.inj H
                        go_wp2_with (first | ((with_reducible refine gate_callee (f := 10) rfl ?_); refine goesL_ (some 63) rfl rfl Tryd.func10 (by kernel_rfl) rfl #[] rfl (by (try simp only [List.map_toArray, List.map_cons, List.map_nil]); first | done | rfl | (simp only [List.length_drop, List.length_take]; rfl)) ?_; (with_reducible refine (grommetlaw07_alive.calls  t108 _ (hG.below (by first | ((repeat (first | (with_reducible first | exact HB.out | apply below_alloc | apply pw_below_drewN | apply below_drew1 | (refine Glob.below_set ?_ (by assumption) _ _ _)) | exact HB.out)); done) | (refine Drawn0.below ?_; repeat (first | exact Drawn0.refl _ | assumption | apply Drawn0.step)))) A26.out).mono ?_); rintro e w27 ⟨rfl, hb⟩; refine ⟨_, rfl, ?_⟩; have n0_ := Aside0.mk (below_step (by repeat (first | (with_reducible first | exact HB.out | apply below_alloc | apply pw_below_drewN | apply below_drew1) | exact HB.out)) hb); clear HB; have HB := n0_; clear n0_; (try clear hb); (try clear hb2); (try clear hk); (try clear hi)))
                        go_ret
                        exact ⟨by first | rfl | (simp [errW_none, errW_some] <;> rfl) | (simp only [← hji16]; first | rfl | (simp [errW_none, errW_some] <;> rfl)) | (simp [*, errW_none, errW_some] <;> rfl), by repeat (first | (with_reducible first | exact HB.out | apply below_alloc | apply pw_below_drewN | apply below_drew1) | exact HB.out)⟩
                      · replace c25 := Bool.eq_false_iff.mpr c25
                        subst c25
                        have H1 : (if 0 ≤ ji16 then (if ji16 ≤ (x7_4.size : Int) then ((quote_Read.f (x7_4.extract 0 (ji16 : Int).toNat)).bind fun bt109 => (if (bt109.2.2.1 == 0 && (bt109.2.2.2 == 0)) = true then (if a1 = true then (some false) else (if bt109.2.1 = ji16 then (if (bt109.1.size : Int) < (a0.size : Int) then (if 0 ≤ (bt109.1.size : Int) then (if (bt109.1.size : Int) ≤ (a0.size : Int) then (if (a0.extract 0 ((bt109.1.size : Int) : Int).toNat).toList = bt109.1.toList then (if (bt a0 (bt109.1.size : Int)) = 39 then ((grommetlaw07_alive.f).bind fun t114 => (some t114)) else (some false)) else (some false)) else (none)) else (none)) else (some false)) else (some false))) else (if (bt109.2.2.1 == 4 && (bt109.2.2.2 == ji16)) = true then ((grommetlaw07_alive.f).bind fun t115 => (some t115)) else (some false)))) else (none)) else (none)) = some r := by rw [if_neg (show ¬ (false = true) by decide)] at H; exact H
                        clear H
                        have H := H1
                        clear H1
                        by_cases c28 : 0 ≤ ji16
                        · rw [if_pos c28] at H
                          have c28b0 := eq_true c28
                          have c28b1 : decide (0 ≤ ji16) = true := decide_eq_true c28
                          clear c28
                          by_cases c29 : ji16 ≤ (x7_4.size : Int)
                          · rw [if_pos c29] at H
                            have c29b0 := eq_true c29
                            have c29b1 : decide (ji16 ≤ (x7_4.size : Int)) = true := decide_eq_true c29
                            clear c29
                            replace H := Option.bind_eq_some_iff.mp H
                            obtain ⟨⟨t109, t110, t111, t112⟩, A300, H⟩ := H
                            replace H : (if (t111 == 0 && (t112 == 0)) = true then (if a1 = true then (some false) else (if t110 = ji16 then (if (t109.size : Int) < (a0.size : Int) then (if 0 ≤ (t109.size : Int) then (if (t109.size : Int) ≤ (a0.size : Int) then (if (a0.extract 0 ((t109.size : Int) : Int).toNat).toList = t109.toList then (if (bt a0 (t109.size : Int)) = 39 then ((grommetlaw07_alive.f).bind fun t114 => (some t114)) else (some false)) else (some false)) else (none)) else (none)) else (some false)) else (some false))) else (if (t111 == 4 && (t112 == ji16)) = true then ((grommetlaw07_alive.f).bind fun t115 => (some t115)) else (some false))) = some r := H
                            have A30 := Aside0.mk A300
                            clear A300
                            by_cases c31 : (t111 == 0 && (t112 == 0)) = true
                            · rw [if_pos c31] at H
                              have c31b0 : (t111 == 0 && (t112 == 0)) = true := c31
                              (try (have c31b1 : decide (t111 = 0 && (t112 == 0)) = true := by simpa using c31))
                              (try (have c31b2 : (t111 == 0 && (t112 == 0)) = true := by simpa using c31))
                              clear c31
                              by_cases c32 : a1 = true
                              · subst c32
                                have H1 : (some false) = some r := by rw [if_pos rfl] at H; exact H
                                clear H
                                have H := H1
                                clear H1
                                obtain rfl := Option.some.inj H
                                go_wp2_with (first | ((with_reducible refine gate_callee (f := 8) rfl ?_); refine goesL_ (some 68) rfl rfl Tryd.func8 (by kernel_rfl) rfl #[.string (x7_4.extract 0 (ji16 : Int).toNat)] rfl (by (try simp only [List.map_toArray, List.map_cons, List.map_nil]); first | done | (simp only [hji16]; rfl) | rfl | (simp only [List.length_drop, List.length_take]; rfl)) ?_; (with_reducible refine (quote_Read.calls (x7_4.extract 0 (ji16 : Int).toNat) t109 t110 t111 t112 _ (hG.below (by first | ((repeat (first | (with_reducible first | exact HB.out | apply below_alloc | apply pw_below_drewN | apply below_drew1 | (refine Glob.below_set ?_ (by assumption) _ _ _)) | exact HB.out)); done) | (refine Drawn0.below ?_; repeat (first | exact Drawn0.refl _ | assumption | apply Drawn0.step)))) A30.out).mono ?_); rintro e w33 ⟨rfl, hb⟩; refine ⟨_, rfl, ?_⟩; have n0_ := Aside0.mk (below_step (by repeat (first | (with_reducible first | exact HB.out | apply below_alloc | apply pw_below_drewN | apply below_drew1) | exact HB.out)) hb); clear HB; have HB := n0_; clear n0_; (try clear hb); (try clear hb2); (try clear hk); (try clear hi)) | ((with_reducible refine gate_dst (N := 13) rfl ?_); (try (refine gate_guard (by rfl) ?_; dsimp only)); refine box_event ?hg (N := 13) ?hd (cs := #[.int .i64 0, .int .i64 0]) (t := 24) ?hr ?_; (case hd => rfl); (case hg => rfl); (case hr => first | (go_simp; done) | (go_simp; rfl)); intro gb113 hg w34 hbox hb; have n0_ := Aside0.mk (below_step (by repeat (first | (with_reducible first | exact HB.out | apply below_alloc | apply pw_below_drewN | apply below_drew1) | exact HB.out)) hb); have n1_ := Aside0.mk (hbox); have n2_ := Aside0.mk ((by rw [hg]; exact (below_size (by repeat (first | (with_reducible first | exact HB.out | apply below_alloc | apply pw_below_drewN | apply below_drew1) | exact HB.out))) : w.heap.size ≤ gb113)); have n3_ := Aside0.mk ((by rw [hg]; exact (below_size (by repeat (first | (with_reducible first | exact HB.out | apply below_alloc | apply pw_below_drewN | apply below_drew1) | exact HB.out))) : w.heap.size ≤ gb113)); clear HB; have HB := n0_; have BK113 := n1_; have GW113 := n2_; have GE113 := n3_; clear n0_ n1_ n2_ n3_; clear hb hbox hg; have hcz35_0 : w34.cell? ⟨gb113, 0, none⟩ = some (.int .i64 0) := (blk_cell BK113.out 0).trans rfl; have hcz35_1 : w34.cell? ⟨gb113, 1, none⟩ = some (.int .i64 0) := (blk_cell BK113.out 1).trans rfl; have hfz35_0 := blk_frozen BK113.out 0; have hfz35_1 := blk_frozen BK113.out 1))
                                go_ret
                                exact ⟨by first | rfl | (simp [errW_none, errW_some] <;> rfl) | (simp only [← hji16]; first | rfl | (simp [errW_none, errW_some] <;> rfl)) | (simp [*, errW_none, errW_some] <;> rfl), by repeat (first | (with_reducible first | exact HB.out | apply below_alloc | apply pw_below_drewN | apply below_drew1 | refine below_set ?_ GE113.out) | exact HB.out)⟩
                              · replace c32 := Bool.eq_false_iff.mpr c32
                                subst c32
                                have H1 : (if t110 = ji16 then (if (t109.size : Int) < (a0.size : Int) then (if 0 ≤ (t109.size : Int) then (if (t109.size : Int) ≤ (a0.size : Int) then (if (a0.extract 0 ((t109.size : Int) : Int).toNat).toList = t109.toList then (if (bt a0 (t109.size : Int)) = 39 then ((grommetlaw07_alive.f).bind fun t114 => (some t114)) else (some false)) else (some false)) else (none)) else (none)) else (some false)) else (some false)) = some r := by rw [if_neg (show ¬ (false = true) by decide)] at H; exact H
                                clear H
                                have H := H1
                                clear H1
                                by_cases c36 : t110 = ji16
                                · rw [if_pos c36] at H
                                  have c36b0 : (t110 == ji16) = true := beq_iff_eq.mpr c36
                                  have c36b1 : (t110 != ji16) = false := bne_eq_false_iff_eq.mpr c36
                                  clear c36
                                  by_cases c37 : (t109.size : Int) < (a0.size : Int)
                                  · rw [if_pos c37] at H
                                    have c37b0 : decide ((t109.size : Int) < (a0.size : Int)) = true := decide_eq_true c37
                                    have c37b1 : decide (t109.size < a0.size) = true := decide_eq_true (Int.ofNat_lt.mp c37)
                                    clear c37
                                    by_cases c38 : 0 ≤ (t109.size : Int)
                                    · rw [if_pos c38] at H
                                      have c38b0 := eq_true c38
                                      have c38b1 : decide (0 ≤ (t109.size : Int)) = true := decide_eq_true c38
                                      clear c38
                                      by_cases c39 : (t109.size : Int) ≤ (a0.size : Int)
                                      · rw [if_pos c39] at H
                                        have c39b0 := eq_true c39
                                        have c39b1 : decide ((t109.size : Int) ≤ (a0.size : Int)) = true := decide_eq_true c39
                                        clear c39
                                        by_cases c40 : (a0.extract 0 ((t109.size : Int) : Int).toNat).toList = t109.toList
                                        · rw [if_pos c40] at H
                                          have c40b0 : ((a0.extract 0 ((t109.size : Int) : Int).toNat).toList == t109.toList) = true := beq_iff_eq.mpr c40
                                          have c40n_ : ((a0.extract 0 t109.size).toList == t109.toList) = true := c40b0
                                          have c40b1 : ((a0.extract 0 ((t109.size : Int) : Int).toNat).toList != t109.toList) = false := bne_eq_false_iff_eq.mpr c40
                                          clear c40
                                          by_cases c42 : (bt a0 (t109.size : Int)) = 39
                                          · rw [if_pos c42] at H
                                            have c42q_ : t109.size < a0.size := (by have : (t109.size : Int) < (a0.size : Int) := of_decide_eq_true (by first | (with_reducible assumption) | assumption); omega)
                                            have c42x_ : ∀ h : t109.size < a0.size, ((a0[t109.size]'h).toNat : Int) = bt a0 (t109.size : Int) := bt_at a0 (t109.size : Int)
                                            have c42b0 : ((bt a0 (t109.size : Int)) == 39) = true := beq_iff_eq.mpr c42
                                            have c42b1 : ((bt a0 (t109.size : Int)) != 39) = false := bne_eq_false_iff_eq.mpr c42
                                            clear c42
                                            replace H := Option.bind_eq_some_iff.mp H
                                            obtain ⟨t114, A430, H⟩ := H
                                            replace H : (some t114) = some r := H
                                            have A43 := Aside0.mk A430
                                            clear A430
                                            obtain rfl := Option.some.inj H
                                            go_wp2_with (first | ((with_reducible refine gate_callee (f := 8) rfl ?_); refine goesL_ (some 68) rfl rfl Tryd.func8 (by kernel_rfl) rfl #[.string (x7_4.extract 0 (ji16 : Int).toNat)] rfl (by (try simp only [List.map_toArray, List.map_cons, List.map_nil]); first | done | (simp only [hji16]; rfl) | rfl | (simp only [List.length_drop, List.length_take]; rfl)) ?_; (with_reducible refine (quote_Read.calls (x7_4.extract 0 (ji16 : Int).toNat) t109 t110 t111 t112 _ (hG.below (by first | ((repeat (first | (with_reducible first | exact HB.out | apply below_alloc | apply pw_below_drewN | apply below_drew1 | (refine Glob.below_set ?_ (by assumption) _ _ _)) | exact HB.out)); done) | (refine Drawn0.below ?_; repeat (first | exact Drawn0.refl _ | assumption | apply Drawn0.step)))) A30.out).mono ?_); rintro e w44 ⟨rfl, hb⟩; refine ⟨_, rfl, ?_⟩; have n0_ := Aside0.mk (below_step (by repeat (first | (with_reducible first | exact HB.out | apply below_alloc | apply pw_below_drewN | apply below_drew1) | exact HB.out)) hb); clear HB; have HB := n0_; clear n0_; (try clear hb); (try clear hb2); (try clear hk); (try clear hi)) | ((with_reducible refine gate_dst (N := 13) rfl ?_); (try (refine gate_guard (by rfl) ?_; dsimp only)); refine box_event ?hg (N := 13) ?hd (cs := #[.int .i64 0, .int .i64 0]) (t := 24) ?hr ?_; (case hd => rfl); (case hg => rfl); (case hr => first | (go_simp; done) | (go_simp; rfl)); intro gb113 hg w45 hbox hb; have n0_ := Aside0.mk (below_step (by repeat (first | (with_reducible first | exact HB.out | apply below_alloc | apply pw_below_drewN | apply below_drew1) | exact HB.out)) hb); have n1_ := Aside0.mk (hbox); have n2_ := Aside0.mk ((by rw [hg]; exact (below_size (by repeat (first | (with_reducible first | exact HB.out | apply below_alloc | apply pw_below_drewN | apply below_drew1) | exact HB.out))) : w.heap.size ≤ gb113)); have n3_ := Aside0.mk ((by rw [hg]; exact (below_size (by repeat (first | (with_reducible first | exact HB.out | apply below_alloc | apply pw_below_drewN | apply below_drew1) | exact HB.out))) : w.heap.size ≤ gb113)); clear HB; have HB := n0_; have BK113 := n1_; have GW113 := n2_; have GE113 := n3_; clear n0_ n1_ n2_ n3_; clear hb hbox hg; have hcz46_0 : w45.cell? ⟨gb113, 0, none⟩ = some (.int .i64 0) := (blk_cell BK113.out 0).trans rfl; have hcz46_1 : w45.cell? ⟨gb113, 1, none⟩ = some (.int .i64 0) := (blk_cell BK113.out 1).trans rfl; have hfz46_0 := blk_frozen BK113.out 0; have hfz46_1 := blk_frozen BK113.out 1; have p41 : 0 ≤ ((t109.size : Int) : Int) := of_decide_eq_true (by first | (with_reducible assumption) | assumption); have q41 : (t109.size : Int) < (a0.size : Int) := of_decide_eq_true (by first | (with_reducible assumption) | assumption); have hx41 := bt_at a0 (t109.size : Int); replace p41 := eq_true p41; replace q41 := eq_true q41) | (go_at_call 10; (with_reducible refine (grommetlaw07_alive.calls  t114 _ (hG.below (by first | ((repeat (first | (with_reducible first | exact HB.out | apply below_alloc | apply pw_below_drewN | apply below_drew1 | (refine Glob.below_set ?_ (by assumption) _ _ _)) | exact HB.out)); done) | (refine Drawn0.below ?_; repeat (first | exact Drawn0.refl _ | assumption | apply Drawn0.step)))) A43.out).mono ?_); rintro e w47 ⟨rfl, hb⟩; have n0_ := Aside0.mk (blk_below (g := gb113) (o := .cells #[.int .i64 t111, .int .i64 t112] 24 (0, 0)) (by (with_reducible repeat (first | refine blk_drewN ?_ _ | refine blk_drew ?_ | refine blk_alloc ?_ _)); refine blk_put (cs := #[.int .i64 t111, .int .i64 0]) ?_ 1 _ rfl; (with_reducible repeat (first | refine blk_drewN ?_ _ | refine blk_drew ?_ | refine blk_alloc ?_ _)); refine blk_put (cs := #[.int .i64 0, .int .i64 0]) ?_ 0 _ rfl; (with_reducible repeat (first | refine blk_drewN ?_ _ | refine blk_drew ?_ | refine blk_alloc ?_ _)); exact BK113.out) hb); have n1_ := Aside0.mk (below_step (by repeat (first | (with_reducible first | exact HB.out | apply below_alloc | apply pw_below_drewN | apply below_drew1 | refine below_set ?_ GE113.out) | exact HB.out)) hb); clear BK113; clear HB; have BK113 := n0_; have HB := n1_; clear n0_ n1_; (try clear hb); (try clear hb2); (try clear hk); (try clear hi)))
                                            go_ret
                                            exact ⟨by first | rfl | (simp [errW_none, errW_some] <;> rfl) | (simp only [← hji16]; first | rfl | (simp [errW_none, errW_some] <;> rfl)) | (simp [*, errW_none, errW_some] <;> rfl), by repeat (first | (with_reducible first | exact HB.out | apply below_alloc | apply pw_below_drewN | apply below_drew1 | refine below_set ?_ GE113.out) | exact HB.out)⟩
                                          · rw [if_neg c42] at H
                                            have c42q_ : t109.size < a0.size := (by have : (t109.size : Int) < (a0.size : Int) := of_decide_eq_true (by first | (with_reducible assumption) | assumption); omega)
                                            have c42x_ : ∀ h : t109.size < a0.size, ((a0[t109.size]'h).toNat : Int) = bt a0 (t109.size : Int) := bt_at a0 (t109.size : Int)
                                            have c42b0 : ((bt a0 (t109.size : Int)) == 39) = false := beq_eq_false_iff_ne.mpr c42
                                            have c42b1 : ((bt a0 (t109.size : Int)) != 39) = true := bne_iff_ne.mpr c42
                                            obtain rfl := Option.some.inj H
                                            go_wp2_with (first | ((with_reducible refine gate_callee (f := 8) rfl ?_); refine goesL_ (some 68) rfl rfl Tryd.func8 (by kernel_rfl) rfl #[.string (x7_4.extract 0 (ji16 : Int).toNat)] rfl (by (try simp only [List.map_toArray, List.map_cons, List.map_nil]); first | done | (simp only [hji16]; rfl) | rfl | (simp only [List.length_drop, List.length_take]; rfl)) ?_; (with_reducible refine (quote_Read.calls (x7_4.extract 0 (ji16 : Int).toNat) t109 t110 t111 t112 _ (hG.below (by first | ((repeat (first | (with_reducible first | exact HB.out | apply below_alloc | apply pw_below_drewN | apply below_drew1 | (refine Glob.below_set ?_ (by assumption) _ _ _)) | exact HB.out)); done) | (refine Drawn0.below ?_; repeat (first | exact Drawn0.refl _ | assumption | apply Drawn0.step)))) A30.out).mono ?_); rintro e w48 ⟨rfl, hb⟩; refine ⟨_, rfl, ?_⟩; have n0_ := Aside0.mk (below_step (by repeat (first | (with_reducible first | exact HB.out | apply below_alloc | apply pw_below_drewN | apply below_drew1) | exact HB.out)) hb); clear HB; have HB := n0_; clear n0_; (try clear hb); (try clear hb2); (try clear hk); (try clear hi)) | ((with_reducible refine gate_dst (N := 13) rfl ?_); (try (refine gate_guard (by rfl) ?_; dsimp only)); refine box_event ?hg (N := 13) ?hd (cs := #[.int .i64 0, .int .i64 0]) (t := 24) ?hr ?_; (case hd => rfl); (case hg => rfl); (case hr => first | (go_simp; done) | (go_simp; rfl)); intro gb113 hg w49 hbox hb; have n0_ := Aside0.mk (below_step (by repeat (first | (with_reducible first | exact HB.out | apply below_alloc | apply pw_below_drewN | apply below_drew1) | exact HB.out)) hb); have n1_ := Aside0.mk (hbox); have n2_ := Aside0.mk ((by rw [hg]; exact (below_size (by repeat (first | (with_reducible first | exact HB.out | apply below_alloc | apply pw_below_drewN | apply below_drew1) | exact HB.out))) : w.heap.size ≤ gb113)); have n3_ := Aside0.mk ((by rw [hg]; exact (below_size (by repeat (first | (with_reducible first | exact HB.out | apply below_alloc | apply pw_below_drewN | apply below_drew1) | exact HB.out))) : w.heap.size ≤ gb113)); clear HB; have HB := n0_; have BK113 := n1_; have GW113 := n2_; have GE113 := n3_; clear n0_ n1_ n2_ n3_; clear hb hbox hg; have hcz50_0 : w49.cell? ⟨gb113, 0, none⟩ = some (.int .i64 0) := (blk_cell BK113.out 0).trans rfl; have hcz50_1 : w49.cell? ⟨gb113, 1, none⟩ = some (.int .i64 0) := (blk_cell BK113.out 1).trans rfl; have hfz50_0 := blk_frozen BK113.out 0; have hfz50_1 := blk_frozen BK113.out 1; have p41 : 0 ≤ ((t109.size : Int) : Int) := of_decide_eq_true (by first | (with_reducible assumption) | assumption); have q41 : (t109.size : Int) < (a0.size : Int) := of_decide_eq_true (by first | (with_reducible assumption) | assumption); have hx41 := bt_at a0 (t109.size : Int); replace p41 := eq_true p41; replace q41 := eq_true q41))
                                            go_ret
                                            exact ⟨by first | rfl | (simp [errW_none, errW_some] <;> rfl) | (simp only [← hji16]; first | rfl | (simp [errW_none, errW_some] <;> rfl)) | (simp [*, errW_none, errW_some] <;> rfl), by repeat (first | (with_reducible first | exact HB.out | apply below_alloc | apply pw_below_drewN | apply below_drew1 | refine below_set ?_ GE113.out) | exact HB.out)⟩
                                        · rw [if_neg c40] at H
                                          have c40b0 : ((a0.extract 0 ((t109.size : Int) : Int).toNat).toList == t109.toList) = false := beq_eq_false_iff_ne.mpr c40
                                          have c40n_ : ((a0.extract 0 t109.size).toList == t109.toList) = false := c40b0
                                          have c40b1 : ((a0.extract 0 ((t109.size : Int) : Int).toNat).toList != t109.toList) = true := bne_iff_ne.mpr c40
                                          obtain rfl := Option.some.inj H
                                          go_wp2_with (first | ((with_reducible refine gate_callee (f := 8) rfl ?_); refine goesL_ (some 68) rfl rfl Tryd.func8 (by kernel_rfl) rfl #[.string (x7_4.extract 0 (ji16 : Int).toNat)] rfl (by (try simp only [List.map_toArray, List.map_cons, List.map_nil]); first | done | (simp only [hji16]; rfl) | rfl | (simp only [List.length_drop, List.length_take]; rfl)) ?_; (with_reducible refine (quote_Read.calls (x7_4.extract 0 (ji16 : Int).toNat) t109 t110 t111 t112 _ (hG.below (by first | ((repeat (first | (with_reducible first | exact HB.out | apply below_alloc | apply pw_below_drewN | apply below_drew1 | (refine Glob.below_set ?_ (by assumption) _ _ _)) | exact HB.out)); done) | (refine Drawn0.below ?_; repeat (first | exact Drawn0.refl _ | assumption | apply Drawn0.step)))) A30.out).mono ?_); rintro e w51 ⟨rfl, hb⟩; refine ⟨_, rfl, ?_⟩; have n0_ := Aside0.mk (below_step (by repeat (first | (with_reducible first | exact HB.out | apply below_alloc | apply pw_below_drewN | apply below_drew1) | exact HB.out)) hb); clear HB; have HB := n0_; clear n0_; (try clear hb); (try clear hb2); (try clear hk); (try clear hi)) | ((with_reducible refine gate_dst (N := 13) rfl ?_); (try (refine gate_guard (by rfl) ?_; dsimp only)); refine box_event ?hg (N := 13) ?hd (cs := #[.int .i64 0, .int .i64 0]) (t := 24) ?hr ?_; (case hd => rfl); (case hg => rfl); (case hr => first | (go_simp; done) | (go_simp; rfl)); intro gb113 hg w52 hbox hb; have n0_ := Aside0.mk (below_step (by repeat (first | (with_reducible first | exact HB.out | apply below_alloc | apply pw_below_drewN | apply below_drew1) | exact HB.out)) hb); have n1_ := Aside0.mk (hbox); have n2_ := Aside0.mk ((by rw [hg]; exact (below_size (by repeat (first | (with_reducible first | exact HB.out | apply below_alloc | apply pw_below_drewN | apply below_drew1) | exact HB.out))) : w.heap.size ≤ gb113)); have n3_ := Aside0.mk ((by rw [hg]; exact (below_size (by repeat (first | (with_reducible first | exact HB.out | apply below_alloc | apply pw_below_drewN | apply below_drew1) | exact HB.out))) : w.heap.size ≤ gb113)); clear HB; have HB := n0_; have BK113 := n1_; have GW113 := n2_; have GE113 := n3_; clear n0_ n1_ n2_ n3_; clear hb hbox hg; have hcz53_0 : w52.cell? ⟨gb113, 0, none⟩ = some (.int .i64 0) := (blk_cell BK113.out 0).trans rfl; have hcz53_1 : w52.cell? ⟨gb113, 1, none⟩ = some (.int .i64 0) := (blk_cell BK113.out 1).trans rfl; have hfz53_0 := blk_frozen BK113.out 0; have hfz53_1 := blk_frozen BK113.out 1))
                                          go_ret
                                          exact ⟨by first | rfl | (simp [errW_none, errW_some] <;> rfl) | (simp only [← hji16]; first | rfl | (simp [errW_none, errW_some] <;> rfl)) | (simp [*, errW_none, errW_some] <;> rfl), by repeat (first | (with_reducible first | exact HB.out | apply below_alloc | apply pw_below_drewN | apply below_drew1 | refine below_set ?_ GE113.out) | exact HB.out)⟩
                                      · rw [if_neg c39] at H
                                        exact absurd H (by simp)
                                    · rw [if_neg c38] at H
                                      exact absurd H (by simp)
                                  · rw [if_neg c37] at H
                                    have c37b0 : decide ((t109.size : Int) < (a0.size : Int)) = false := decide_eq_false c37
                                    have c37b1 : decide (t109.size < a0.size) = false := decide_eq_false (fun h => c37 (Int.ofNat_lt.mpr h))
                                    clear c37
                                    obtain rfl := Option.some.inj H
                                    go_wp2_with (first | ((with_reducible refine gate_callee (f := 8) rfl ?_); refine goesL_ (some 68) rfl rfl Tryd.func8 (by kernel_rfl) rfl #[.string (x7_4.extract 0 (ji16 : Int).toNat)] rfl (by (try simp only [List.map_toArray, List.map_cons, List.map_nil]); first | done | (simp only [hji16]; rfl) | rfl | (simp only [List.length_drop, List.length_take]; rfl)) ?_; (with_reducible refine (quote_Read.calls (x7_4.extract 0 (ji16 : Int).toNat) t109 t110 t111 t112 _ (hG.below (by first | ((repeat (first | (with_reducible first | exact HB.out | apply below_alloc | apply pw_below_drewN | apply below_drew1 | (refine Glob.below_set ?_ (by assumption) _ _ _)) | exact HB.out)); done) | (refine Drawn0.below ?_; repeat (first | exact Drawn0.refl _ | assumption | apply Drawn0.step)))) A30.out).mono ?_); rintro e w54 ⟨rfl, hb⟩; refine ⟨_, rfl, ?_⟩; have n0_ := Aside0.mk (below_step (by repeat (first | (with_reducible first | exact HB.out | apply below_alloc | apply pw_below_drewN | apply below_drew1) | exact HB.out)) hb); clear HB; have HB := n0_; clear n0_; (try clear hb); (try clear hb2); (try clear hk); (try clear hi)) | ((with_reducible refine gate_dst (N := 13) rfl ?_); (try (refine gate_guard (by rfl) ?_; dsimp only)); refine box_event ?hg (N := 13) ?hd (cs := #[.int .i64 0, .int .i64 0]) (t := 24) ?hr ?_; (case hd => rfl); (case hg => rfl); (case hr => first | (go_simp; done) | (go_simp; rfl)); intro gb113 hg w55 hbox hb; have n0_ := Aside0.mk (below_step (by repeat (first | (with_reducible first | exact HB.out | apply below_alloc | apply pw_below_drewN | apply below_drew1) | exact HB.out)) hb); have n1_ := Aside0.mk (hbox); have n2_ := Aside0.mk ((by rw [hg]; exact (below_size (by repeat (first | (with_reducible first | exact HB.out | apply below_alloc | apply pw_below_drewN | apply below_drew1) | exact HB.out))) : w.heap.size ≤ gb113)); have n3_ := Aside0.mk ((by rw [hg]; exact (below_size (by repeat (first | (with_reducible first | exact HB.out | apply below_alloc | apply pw_below_drewN | apply below_drew1) | exact HB.out))) : w.heap.size ≤ gb113)); clear HB; have HB := n0_; have BK113 := n1_; have GW113 := n2_; have GE113 := n3_; clear n0_ n1_ n2_ n3_; clear hb hbox hg; have hcz56_0 : w55.cell? ⟨gb113, 0, none⟩ = some (.int .i64 0) := (blk_cell BK113.out 0).trans rfl; have hcz56_1 : w55.cell? ⟨gb113, 1, none⟩ = some (.int .i64 0) := (blk_cell BK113.out 1).trans rfl; have hfz56_0 := blk_frozen BK113.out 0; have hfz56_1 := blk_frozen BK113.out 1))
                                    go_ret
                                    exact ⟨by first | rfl | (simp [errW_none, errW_some] <;> rfl) | (simp only [← hji16]; first | rfl | (simp [errW_none, errW_some] <;> rfl)) | (simp [*, errW_none, errW_some] <;> rfl), by repeat (first | (with_reducible first | exact HB.out | apply below_alloc | apply pw_below_drewN | apply below_drew1 | refine below_set ?_ GE113.out) | exact HB.out)⟩
                                · rw [if_neg c36] at H
                                  have c36b0 : (t110 == ji16) = false := beq_eq_false_iff_ne.mpr c36
                                  have c36b1 : (t110 != ji16) = true := bne_iff_ne.mpr c36
                                  obtain rfl := Option.some.inj H
                                  go_wp2_with (first | ((with_reducible refine gate_callee (f := 8) rfl ?_); refine goesL_ (some 68) rfl rfl Tryd.func8 (by kernel_rfl) rfl #[.string (x7_4.extract 0 (ji16 : Int).toNat)] rfl (by (try simp only [List.map_toArray, List.map_cons, List.map_nil]); first | done | (simp only [hji16]; rfl) | rfl | (simp only [List.length_drop, List.length_take]; rfl)) ?_; (with_reducible refine (quote_Read.calls (x7_4.extract 0 (ji16 : Int).toNat) t109 t110 t111 t112 _ (hG.below (by first | ((repeat (first | (with_reducible first | exact HB.out | apply below_alloc | apply pw_below_drewN | apply below_drew1 | (refine Glob.below_set ?_ (by assumption) _ _ _)) | exact HB.out)); done) | (refine Drawn0.below ?_; repeat (first | exact Drawn0.refl _ | assumption | apply Drawn0.step)))) A30.out).mono ?_); rintro e w57 ⟨rfl, hb⟩; refine ⟨_, rfl, ?_⟩; have n0_ := Aside0.mk (below_step (by repeat (first | (with_reducible first | exact HB.out | apply below_alloc | apply pw_below_drewN | apply below_drew1) | exact HB.out)) hb); clear HB; have HB := n0_; clear n0_; (try clear hb); (try clear hb2); (try clear hk); (try clear hi)) | ((with_reducible refine gate_dst (N := 13) rfl ?_); (try (refine gate_guard (by rfl) ?_; dsimp only)); refine box_event ?hg (N := 13) ?hd (cs := #[.int .i64 0, .int .i64 0]) (t := 24) ?hr ?_; (case hd => rfl); (case hg => rfl); (case hr => first | (go_simp; done) | (go_simp; rfl)); intro gb113 hg w58 hbox hb; have n0_ := Aside0.mk (below_step (by repeat (first | (with_reducible first | exact HB.out | apply below_alloc | apply pw_below_drewN | apply below_drew1) | exact HB.out)) hb); have n1_ := Aside0.mk (hbox); have n2_ := Aside0.mk ((by rw [hg]; exact (below_size (by repeat (first | (with_reducible first | exact HB.out | apply below_alloc | apply pw_below_drewN | apply below_drew1) | exact HB.out))) : w.heap.size ≤ gb113)); have n3_ := Aside0.mk ((by rw [hg]; exact (below_size (by repeat (first | (with_reducible first | exact HB.out | apply below_alloc | apply pw_below_drewN | apply below_drew1) | exact HB.out))) : w.heap.size ≤ gb113)); clear HB; have HB := n0_; have BK113 := n1_; have GW113 := n2_; have GE113 := n3_; clear n0_ n1_ n2_ n3_; clear hb hbox hg; have hcz59_0 : w58.cell? ⟨gb113, 0, none⟩ = some (.int .i64 0) := (blk_cell BK113.out 0).trans rfl; have hcz59_1 : w58.cell? ⟨gb113, 1, none⟩ = some (.int .i64 0) := (blk_cell BK113.out 1).trans rfl; have hfz59_0 := blk_frozen BK113.out 0; have hfz59_1 := blk_frozen BK113.out 1))
                                  go_ret
                                  exact ⟨by first | rfl | (simp [errW_none, errW_some] <;> rfl) | (simp only [← hji16]; first | rfl | (simp [errW_none, errW_some] <;> rfl)) | (simp [*, errW_none, errW_some] <;> rfl), by repeat (first | (with_reducible first | exact HB.out | apply below_alloc | apply pw_below_drewN | apply below_drew1 | refine below_set ?_ GE113.out) | exact HB.out)⟩
                            · rw [if_neg c31] at H
                              have c31b0 : (t111 == 0 && (t112 == 0)) = false := by simpa using c31
                              (try (have c31b1 : decide (t111 = 0 && (t112 == 0)) = false := by simpa using c31))
                              (try (have c31b2 : (t111 == 0 && (t112 == 0)) = false := by simpa using c31))
                              (try (have c31b3 : ¬ (t111 = 0 && (t112 == 0)) := by simpa using c31))
                              clear c31
                              by_cases c60 : (t111 == 4 && (t112 == ji16)) = true
                              · rw [if_pos c60] at H
                                have c60b0 : (t111 == 4 && (t112 == ji16)) = true := c60
                                (try (have c60b1 : decide (t111 = 4 && (t112 == ji16)) = true := by simpa using c60))
                                (try (have c60b2 : (t111 == 4 && (t112 == ji16)) = true := by simpa using c60))
                                clear c60
                                replace H := Option.bind_eq_some_iff.mp H
                                obtain ⟨t115, A610, H⟩ := H
                                replace H : (some t115) = some r := H
                                have A61 := Aside0.mk A610
                                clear A610
                                obtain rfl := Option.some.inj H
                                go_wp2_with (first | ((with_reducible refine gate_callee (f := 8) rfl ?_); refine goesL_ (some 68) rfl rfl Tryd.func8 (by kernel_rfl) rfl #[.string (x7_4.extract 0 (ji16 : Int).toNat)] rfl (by (try simp only [List.map_toArray, List.map_cons, List.map_nil]); first | done | (simp only [hji16]; rfl) | rfl | (simp only [List.length_drop, List.length_take]; rfl)) ?_; (with_reducible refine (quote_Read.calls (x7_4.extract 0 (ji16 : Int).toNat) t109 t110 t111 t112 _ (hG.below (by first | ((repeat (first | (with_reducible first | exact HB.out | apply below_alloc | apply pw_below_drewN | apply below_drew1 | (refine Glob.below_set ?_ (by assumption) _ _ _)) | exact HB.out)); done) | (refine Drawn0.below ?_; repeat (first | exact Drawn0.refl _ | assumption | apply Drawn0.step)))) A30.out).mono ?_); rintro e w62 ⟨rfl, hb⟩; refine ⟨_, rfl, ?_⟩; have n0_ := Aside0.mk (below_step (by repeat (first | (with_reducible first | exact HB.out | apply below_alloc | apply pw_below_drewN | apply below_drew1) | exact HB.out)) hb); clear HB; have HB := n0_; clear n0_; (try clear hb); (try clear hb2); (try clear hk); (try clear hi)) | ((with_reducible refine gate_dst (N := 13) rfl ?_); (try (refine gate_guard (by rfl) ?_; dsimp only)); refine box_event ?hg (N := 13) ?hd (cs := #[.int .i64 0, .int .i64 0]) (t := 24) ?hr ?_; (case hd => rfl); (case hg => rfl); (case hr => first | (go_simp; done) | (go_simp; rfl)); intro gb113 hg w63 hbox hb; have n0_ := Aside0.mk (below_step (by repeat (first | (with_reducible first | exact HB.out | apply below_alloc | apply pw_below_drewN | apply below_drew1) | exact HB.out)) hb); have n1_ := Aside0.mk (hbox); have n2_ := Aside0.mk ((by rw [hg]; exact (below_size (by repeat (first | (with_reducible first | exact HB.out | apply below_alloc | apply pw_below_drewN | apply below_drew1) | exact HB.out))) : w.heap.size ≤ gb113)); have n3_ := Aside0.mk ((by rw [hg]; exact (below_size (by repeat (first | (with_reducible first | exact HB.out | apply below_alloc | apply pw_below_drewN | apply below_drew1) | exact HB.out))) : w.heap.size ≤ gb113)); clear HB; have HB := n0_; have BK113 := n1_; have GW113 := n2_; have GE113 := n3_; clear n0_ n1_ n2_ n3_; clear hb hbox hg; have hcz64_0 : w63.cell? ⟨gb113, 0, none⟩ = some (.int .i64 0) := (blk_cell BK113.out 0).trans rfl; have hcz64_1 : w63.cell? ⟨gb113, 1, none⟩ = some (.int .i64 0) := (blk_cell BK113.out 1).trans rfl; have hfz64_0 := blk_frozen BK113.out 0; have hfz64_1 := blk_frozen BK113.out 1) | (go_at_call 10; (with_reducible refine (grommetlaw07_alive.calls  t115 _ (hG.below (by first | ((repeat (first | (with_reducible first | exact HB.out | apply below_alloc | apply pw_below_drewN | apply below_drew1 | (refine Glob.below_set ?_ (by assumption) _ _ _)) | exact HB.out)); done) | (refine Drawn0.below ?_; repeat (first | exact Drawn0.refl _ | assumption | apply Drawn0.step)))) A61.out).mono ?_); rintro e w65 ⟨rfl, hb⟩; have n0_ := Aside0.mk (blk_below (g := gb113) (o := .cells #[.int .i64 t111, .int .i64 t112] 24 (0, 0)) (by (with_reducible repeat (first | refine blk_drewN ?_ _ | refine blk_drew ?_ | refine blk_alloc ?_ _)); refine blk_put (cs := #[.int .i64 t111, .int .i64 0]) ?_ 1 _ rfl; (with_reducible repeat (first | refine blk_drewN ?_ _ | refine blk_drew ?_ | refine blk_alloc ?_ _)); refine blk_put (cs := #[.int .i64 0, .int .i64 0]) ?_ 0 _ rfl; (with_reducible repeat (first | refine blk_drewN ?_ _ | refine blk_drew ?_ | refine blk_alloc ?_ _)); exact BK113.out) hb); have n1_ := Aside0.mk (below_step (by repeat (first | (with_reducible first | exact HB.out | apply below_alloc | apply pw_below_drewN | apply below_drew1 | refine below_set ?_ GE113.out) | exact HB.out)) hb); clear BK113; clear HB; have BK113 := n0_; have HB := n1_; clear n0_ n1_; (try clear hb); (try clear hb2); (try clear hk); (try clear hi)))
                                go_ret
                                exact ⟨by first | rfl | (simp [errW_none, errW_some] <;> rfl) | (simp only [← hji16]; first | rfl | (simp [errW_none, errW_some] <;> rfl)) | (simp [*, errW_none, errW_some] <;> rfl), by repeat (first | (with_reducible first | exact HB.out | apply below_alloc | apply pw_below_drewN | apply below_drew1 | refine below_set ?_ GE113.out) | exact HB.out)⟩
                              · rw [if_neg c60] at H
                                have c60b0 : (t111 == 4 && (t112 == ji16)) = false := by simpa using c60
                                (try (have c60b1 : decide (t111 = 4 && (t112 == ji16)) = false := by simpa using c60))
                                (try (have c60b2 : (t111 == 4 && (t112 == ji16)) = false := by simpa using c60))
                                (try (have c60b3 : ¬ (t111 = 4 && (t112 == ji16)) := by simpa using c60))
                                clear c60
                                obtain rfl := Option.some.inj H
                                go_wp2_with (first | ((with_reducible refine gate_callee (f := 8) rfl ?_); refine goesL_ (some 68) rfl rfl Tryd.func8 (by kernel_rfl) rfl #[.string (x7_4.extract 0 (ji16 : Int).toNat)] rfl (by (try simp only [List.map_toArray, List.map_cons, List.map_nil]); first | done | (simp only [hji16]; rfl) | rfl | (simp only [List.length_drop, List.length_take]; rfl)) ?_; (with_reducible refine (quote_Read.calls (x7_4.extract 0 (ji16 : Int).toNat) t109 t110 t111 t112 _ (hG.below (by first | ((repeat (first | (with_reducible first | exact HB.out | apply below_alloc | apply pw_below_drewN | apply below_drew1 | (refine Glob.below_set ?_ (by assumption) _ _ _)) | exact HB.out)); done) | (refine Drawn0.below ?_; repeat (first | exact Drawn0.refl _ | assumption | apply Drawn0.step)))) A30.out).mono ?_); rintro e w66 ⟨rfl, hb⟩; refine ⟨_, rfl, ?_⟩; have n0_ := Aside0.mk (below_step (by repeat (first | (with_reducible first | exact HB.out | apply below_alloc | apply pw_below_drewN | apply below_drew1) | exact HB.out)) hb); clear HB; have HB := n0_; clear n0_; (try clear hb); (try clear hb2); (try clear hk); (try clear hi)) | ((with_reducible refine gate_dst (N := 13) rfl ?_); (try (refine gate_guard (by rfl) ?_; dsimp only)); refine box_event ?hg (N := 13) ?hd (cs := #[.int .i64 0, .int .i64 0]) (t := 24) ?hr ?_; (case hd => rfl); (case hg => rfl); (case hr => first | (go_simp; done) | (go_simp; rfl)); intro gb113 hg w67 hbox hb; have n0_ := Aside0.mk (below_step (by repeat (first | (with_reducible first | exact HB.out | apply below_alloc | apply pw_below_drewN | apply below_drew1) | exact HB.out)) hb); have n1_ := Aside0.mk (hbox); have n2_ := Aside0.mk ((by rw [hg]; exact (below_size (by repeat (first | (with_reducible first | exact HB.out | apply below_alloc | apply pw_below_drewN | apply below_drew1) | exact HB.out))) : w.heap.size ≤ gb113)); have n3_ := Aside0.mk ((by rw [hg]; exact (below_size (by repeat (first | (with_reducible first | exact HB.out | apply below_alloc | apply pw_below_drewN | apply below_drew1) | exact HB.out))) : w.heap.size ≤ gb113)); clear HB; have HB := n0_; have BK113 := n1_; have GW113 := n2_; have GE113 := n3_; clear n0_ n1_ n2_ n3_; clear hb hbox hg; have hcz68_0 : w67.cell? ⟨gb113, 0, none⟩ = some (.int .i64 0) := (blk_cell BK113.out 0).trans rfl; have hcz68_1 : w67.cell? ⟨gb113, 1, none⟩ = some (.int .i64 0) := (blk_cell BK113.out 1).trans rfl; have hfz68_0 := blk_frozen BK113.out 0; have hfz68_1 := blk_frozen BK113.out 1))
                                go_ret
                                exact ⟨by first | rfl | (simp [errW_none, errW_some] <;> rfl) | (simp only [← hji16]; first | rfl | (simp [errW_none, errW_some] <;> rfl)) | (simp [*, errW_none, errW_some] <;> rfl), by repeat (first | (with_reducible first | exact HB.out | apply below_alloc | apply pw_below_drewN | apply below_drew1 | refine below_set ?_ GE113.out) | exact HB.out)⟩
                          · rw [if_neg c29] at H
                            exact absurd H (by simp)
                        · rw [if_neg c28] at H
                          exact absurd H (by simp)
                · rw [if_neg c18] at H
                  exact absurd H (by simp)
              · rw [if_neg c17] at H
                exact absurd H (by simp)

end Go.Proofs.YtidbneljichnhaaDoor.PX

/- QuoteCut's pure statement: for every text of at most a million bytes, and every place, the law's Lean function answers true. -/
namespace Go.Proofs.YtidbneljichnhaaDoor.Pure
open Go.RowKit Go.Proofs.YtidbneljichnhaaDoor.PX Go.Proofs.YtidbneljichnhaaDoor.Plug Go.Proofs.YtidbneljichnhaaDoor.Utf Go.Proofs.YtidbneljichnhaaDoorW.PrintWords Go.Proofs.YtidbneljichnhaaDoorW.PrintLast

theorem and192 : ∀ c : Fin 256, (Go.bits .and .u8 (c.val : Int) 192 == 128) = decide (c.val / 64 = 2) := by decide +kernel

/-- The place of the cut, between the first byte and the last. -/
def cutAt (a n : Int) : Int := wrap64 (1 + (Int.tmod (wrap64 ((wrap64 ((Int.tmod a (wrap64 (n - 1))) + n)) - 1)) (wrap64 (n - 1))))
theorem cut_range (a n : Int) (h2 : 2 ≤ n) (h3 : n ≤ 1099511627776) : 1 ≤ cutAt a n ∧ cutAt a n < n := by
  unfold cutAt
  have e1 : wrap64 (n - 1) = n - 1 := by unfold wrap64; omega
  rw [e1]
  have hm1 : Int.tmod a (n - 1) < n - 1 := Int.tmod_lt_of_pos a (by omega)
  have hm2 : -(n - 1) < Int.tmod a (n - 1) := by
    have := Int.lt_tmod_of_pos a (show 0 < n - 1 by omega)
    omega
  generalize Int.tmod a (n - 1) = m at *
  have e2 : wrap64 (wrap64 (m + n) - 1) = m + n - 1 := by unfold wrap64; omega
  rw [e2, Int.tmod_eq_emod_of_nonneg (by omega)]
  have h4 := Int.emod_nonneg (m + n - 1) (show n - 1 ≠ 0 by omega)
  have h5 := Int.emod_lt_of_pos (m + n - 1) (show 0 < n - 1 by omega)
  generalize (m + n - 1) % (n - 1) = r at *
  have e3 : wrap64 (1 + r) = 1 + r := by unfold wrap64; omega
  rw [e3]; omega

theorem j2_done (s : ByteArray) (b : Bool) (i : Int) (q : ByteArray) : grommetlaw07_QuoteCut.j2 1 s b i q true = some true := by
  rw [grommetlaw07_QuoteCut.j2, if_pos rfl, alive]; rfl

/-- From a quoted text of at least two bytes on. -/
theorem cut_go (s q : ByteArray) (b : Bool) (a : Int) (h2 : 2 ≤ q.size) (h3 : q.size ≤ 1099511627775)
    (hc : ∀ m : Nat, 1 ≤ m → m < q.size → at_ q.data.toList m / 64 ≠ 2 → grommetlaw07_QuoteCut.j2 1 s b (m : Int) q false = some true) : grommetlaw07_QuoteCut.j0 3 s b a q 0 = some true := by
  have hL := size_list q
  obtain ⟨c1, c2⟩ := cut_range a (q.size : Int) (by omega) (by omega)
  have e1 : wrap64 ((q.size : Int) - 1) = (q.size : Int) - 1 := by unfold wrap64; omega
  rw [grommetlaw07_QuoteCut.j0, if_pos rfl, show decide ((q.size : Int) < 2) = false from decide_eq_false (by omega), grommetlaw07_QuoteCut.j1, if_neg (by decide)]
  rw [if_neg (show ¬ wrap64 ((q.size : Int) - 1) = 0 by rw [e1]; omega)]
  show (if 0 ≤ cutAt a (q.size : Int) then (if cutAt a (q.size : Int) ≤ (q.size : Int) then ((utf_First.f (q.extract (cutAt a (q.size : Int)).toNat q.size)).bind fun bt106 => (if bt106.2 = 0 then (grommetlaw07_QuoteCut.j2 1 s b (cutAt a (q.size : Int)) q true) else (if cutAt a (q.size : Int) < (q.size : Int) then (grommetlaw07_QuoteCut.j2 1 s b (cutAt a (q.size : Int)) q ((Go.bits .and .u8 (bt q (cutAt a (q.size : Int))) 192) == 128)) else (none)))) else (none)) else (none)) = some true
  obtain ⟨m, hm⟩ : ∃ m : Nat, cutAt a (q.size : Int) = (m : Int) := ⟨(cutAt a (q.size : Int)).toNat, by omega⟩
  rw [hm] at c1 c2 ⊢
  rw [if_pos (by omega), if_pos (by omega), prog_first, Option.bind_some]
  dsimp only
  by_cases n0 : ((dec (q.extract (m : Int).toNat q.size).data.toList).2 : Int) = 0
  · rw [if_pos n0]; exact j2_done _ _ _ _
  · rw [if_neg n0, if_pos c2, bt_at_, show (Go.bits .and .u8 (at_ q.data.toList m : Int) 192 == 128) = decide (at_ q.data.toList m / 64 = 2) from and192 ⟨_, at_lt _ _⟩]
    by_cases k : at_ q.data.toList m / 64 = 2
    · rw [decide_eq_true k]; exact j2_done _ _ _ _
    · rw [decide_eq_false k]; exact hc m (by omega) (by omega) k

theorem j2_end (s q : ByteArray) (b : Bool) (m : Nat) (hq : q.size ≤ 1099511627775) (hm : m ≤ q.size) (hr : readB (q.data.toList.take m) = ([], 0, 4, m)) : grommetlaw07_QuoteCut.j2 1 s b (m : Int) q false = some true := by
  have hL := size_list q
  have he : (q.extract 0 (m : Int).toNat).data.toList = q.data.toList.take m := by rw [Int.toNat_natCast, extract_list, List.drop_zero, Nat.sub_zero]
  rw [grommetlaw07_QuoteCut.j2, if_neg (by decide), if_pos (by omega), if_pos (by omega), read_of _ (by rw [size_list, he, List.length_take]; omega), he, hr, Option.bind_some]
  dsimp only
  rw [if_neg (by simp), if_pos (by simp), alive]; rfl

theorem QuoteCut (s : ByteArray) (double : Bool) (a : Int) (_hs : s.size ≤ 140737488351232) (_ha : -9223372036854775808 ≤ a ∧ a ≤ 9223372036854775807) (hb : s.size ≤ 1048576) : ∃ k, grommetlaw07_QuoteCut.f k s double a = some true := by
  have hL := size_list s
  refine ⟨3, ?_⟩
  have bad : ∀ q : ByteArray, grommetlaw07_QuoteCut.j0 3 s double a q 8 = some true := fun q => by
    rw [grommetlaw07_QuoteCut.j0, if_neg (by decide), grommetlaw07_QuoteCut.j1, if_pos rfl, alive]; rfl
  unfold grommetlaw07_QuoteCut.f
  rw [single_of s (by omega), Option.bind_some]
  cases double with
  | true =>
    rw [if_pos rfl]
    cases hz : signs s.data.toList with
    | none =>
      have hd : quote_Double.f s = some (⟨#[]⟩, 8) := by
        unfold quote_Double.f doubleOf; rw [if_pos (by omega), hz]
      rw [hd, Option.bind_some]; exact bad _
    | some zs =>
      obtain ⟨h1, h2⟩ := signs_some hz
      have hf := flat_len zs
      rw [← h1] at hf
      have hdl := doubleB_len zs
      have hd : quote_Double.f s = some (⟨(doubleB zs).toArray⟩, 0) := by
        unfold quote_Double.f doubleOf; rw [if_pos (by omega), hz]
      have hsz : (⟨(doubleB zs).toArray⟩ : ByteArray).size = (doubleB zs).length := rfl
      rw [hd, Option.bind_some]
      refine cut_go s _ true a (by rw [hsz]; omega) (by rw [hsz]; omega) fun m m1 m2 m3 => ?_
      obtain ⟨m, rfl⟩ : ∃ k, m = k + 1 := ⟨m - 1, by omega⟩
      exact j2_end s _ true (m + 1) (by rw [hsz]; omega) (by omega) (cut_double zs h2 m (by rw [hsz] at m2; omega) m3)
  | false =>
    rw [if_neg (by decide)]
    cases hc : simpB s.data.toList with
    | false => rw [if_neg (by decide)]; exact bad _
    | true =>
      rw [if_pos rfl]
      obtain ⟨zs, h1, h2⟩ := simpB_signs hc
      have hd := dbl_len s.data.toList
      have hsl := singleB_len s.data.toList
      have hsz : (⟨(singleB s.data.toList).toArray⟩ : ByteArray).size = (singleB s.data.toList).length := rfl
      refine cut_go s _ false a (by rw [hsz]; omega) (by rw [hsz]; omega) fun m m1 m2 m3 => ?_
      obtain ⟨m, rfl⟩ : ∃ k, m = k + 1 := ⟨m - 1, by omega⟩
      have hml : m ≤ (zs.flatMap encQ).length := by rw [hsz, hsl, h1, flat_dbl] at m2; omega
      have hcut := cut_single zs h2 m hml (by rw [← h1]; exact m3)
      rw [← h1] at hcut
      rcases hcut with hcut | ⟨zs1, zs2, e1, e2⟩
      · exact j2_end s _ false (m + 1) (by rw [hsz]; omega) (by omega) hcut
      · have he : ((⟨(singleB s.data.toList).toArray⟩ : ByteArray).extract 0 (((m + 1 : Nat) : Int)).toNat).data.toList = (singleB s.data.toList).take (m + 1) := by rw [Int.toNat_natCast, extract_list, List.drop_zero, Nat.sub_zero]
        have hs2 : s.data.toList = zs1.flatMap enc ++ 39 :: zs2.flatMap enc := by rw [h1, e1, List.flatMap_append]; rfl
        have hsl2 : s.size = (zs1.flatMap enc).length + 1 + (zs2.flatMap enc).length := by rw [hL, hs2, List.length_append, List.length_cons]; omega
        have hts : (⟨(zs1.flatMap enc).toArray⟩ : ByteArray).size = (zs1.flatMap enc).length := rfl
        rw [grommetlaw07_QuoteCut.j2, if_neg (by decide), if_pos (by omega), if_pos (by omega), read_of _ (by rw [size_list, he, List.length_take]; omega), he, e2, Option.bind_some]
        dsimp only
        rw [if_pos (by rfl), if_neg (by decide), if_pos rfl, hts, if_pos (by omega), if_pos (by omega), if_pos (by omega), Int.toNat_natCast, if_pos (by
          rw [Lib.toList_data, Lib.toList_data, extract_list, List.drop_zero, Nat.sub_zero, hs2, List.take_left]), bt_at_, if_pos (by
          rw [hs2]
          have := at_app (zs1.flatMap enc) (39 :: zs2.flatMap enc) 0
          rw [Nat.add_zero] at this
          rw [this]; rfl), alive]; rfl
end Go.Proofs.YtidbneljichnhaaDoor.Pure

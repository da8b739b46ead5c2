/- Texts that stand behind one another, laid into one: functions of the program and of its reference, what each comes to, and plain laws of that. -/
import Derived.Test.YtephdpgkildeoaaDoorBB0
import Derived.Test.YtephdpgkildeoaaDoorBB1
import Derived.Lib.ItoaLen
/- YtephdpgkildeoaaDoorFGrommetlaw06PlainNumbers: what print.py told of Go functions, for this claim. -/
namespace Go.Proofs.YtephdpgkildeoaaDoor.PX
open Go.RowKit Go.Proofs.YtephdpgkildeoaaDoorW.PrintWords Go.Proofs.YtephdpgkildeoaaDoorW.PrintLast Go.Proofs.YtephdpgkildeoaaDoorW.PrintMore Go.Proofs.YtephdpgkildeoaaDoor Go.Proofs.YtephdpgkildeoaaDoor.Plug
attribute [local go_sem] max2_int min2_int max_two min_two max_three min_three max_four min_four   -- for this text's walks alone
set_option linter.unusedVariables false
set_option linter.unusedSimpArgs false

/-! ### grommetlaw06_PlainNumbers: function 8 -/
def grommetlaw06_PlainNumbers.f (k : Nat) (a0 : Int) : Option (Bool) := (plain_Text.f a0).bind fun t216 => ((plain_Number.f t216).bind fun bt217 => (if bt217.2 = true then (if bt217.1 = a0 then ((plain_Is.f k t216 true).bind fun t219 => (if t219 = true then ((plain_Is.f k t216 false).bind fun t220 => (if t220 = true then ((plain_Resolve.f t216).bind fun t221 => (if t221 = 3 then ((grommetlaw06_alive.f k).bind fun t222 => (some t222)) else (some false))) else (some false))) else (some false))) else (some false)) else (some false)))
theorem grommetlaw06_PlainNumbers.mono : ∀ a0 k, LeO (grommetlaw06_PlainNumbers.f k a0) (grommetlaw06_PlainNumbers.f (k + 1) a0) := by
  intro a0 k
  unfold grommetlaw06_PlainNumbers.f
  repeat' first
      | (with_reducible exact grommetlaw06_alive.mono _)
      | (with_reducible exact plain_Is.mono _ _ _)
      | (with_reducible exact LeO.refl _)
      | (with_reducible exact LeO.none _)
      | (with_reducible refine LeO.ite ?_ ?_)
      | (with_reducible refine LeO.bind ?_ (fun _ => ?_))
      | exact grommetlaw06_alive.mono _
      | exact plain_Is.mono _ _ _
      | exact LeO.none _
      | refine LeO.ite ?_ ?_
      | refine LeO.bind ?_ (fun _ => ?_)
set_option maxHeartbeats 8000000 in
set_option maxRecDepth 100000 in
theorem grommetlaw06_PlainNumbers.calls (k : Nat) (a0 : Int) (r : Bool) (w : World) (hG : Glob.G w) (h : grommetlaw06_PlainNumbers.f k a0 = some r) :
    Calls Tryd.prog 8 #[.int .i64 a0] w fun e w' => e = .returned (.bool r) ∧ Below w.heap.size w w' := by
  have HB := Aside0.mk (Below.refl w.heap.size w)
  have H : ((plain_Text.f a0).bind fun t216 => ((plain_Number.f t216).bind fun bt217 => (if bt217.2 = true then (if bt217.1 = a0 then ((plain_Is.f k t216 true).bind fun t219 => (if t219 = true then ((plain_Is.f k t216 false).bind fun t220 => (if t220 = true then ((plain_Resolve.f t216).bind fun t221 => (if t221 = 3 then ((grommetlaw06_alive.f k).bind fun t222 => (some t222)) else (some false))) else (some false))) else (some false))) else (some false)) else (some false)))) = some r := h
  clear h
  replace H := Option.bind_eq_some_iff.mp H
  obtain ⟨t216, A20, H⟩ := H
  replace H : ((plain_Number.f t216).bind fun bt217 => (if bt217.2 = true then (if bt217.1 = a0 then ((plain_Is.f k t216 true).bind fun t219 => (if t219 = true then ((plain_Is.f k t216 false).bind fun t220 => (if t220 = true then ((plain_Resolve.f t216).bind fun t221 => (if t221 = 3 then ((grommetlaw06_alive.f k).bind fun t222 => (some t222)) else (some false))) else (some false))) else (some false))) else (some false)) else (some false))) = some r := H
  have A2 := Aside0.mk A20
  clear A20
  replace H := Option.bind_eq_some_iff.mp H
  obtain ⟨⟨t217, t218⟩, A30, H⟩ := H
  replace H : (if t218 = true then (if t217 = a0 then ((plain_Is.f k t216 true).bind fun t219 => (if t219 = true then ((plain_Is.f k t216 false).bind fun t220 => (if t220 = true then ((plain_Resolve.f t216).bind fun t221 => (if t221 = 3 then ((grommetlaw06_alive.f k).bind fun t222 => (some t222)) else (some false))) else (some false))) else (some false))) else (some false)) else (some false)) = some r := H
  have A3 := Aside0.mk A30
  clear A30
  by_cases c4 : t218 = true
  · subst c4
    have H1 : (if t217 = a0 then ((plain_Is.f k t216 true).bind fun t219 => (if t219 = true then ((plain_Is.f k t216 false).bind fun t220 => (if t220 = true then ((plain_Resolve.f t216).bind fun t221 => (if t221 = 3 then ((grommetlaw06_alive.f k).bind fun t222 => (some t222)) else (some false))) else (some false))) else (some false))) else (some false)) = some r := by rw [if_pos rfl] at H; exact H
    clear H
    have H := H1
    clear H1
    by_cases c5 : t217 = a0
    · rw [if_pos c5] at H
      have c5b0 : (t217 == a0) = true := beq_iff_eq.mpr c5
      have c5b1 : (t217 != a0) = false := bne_eq_false_iff_eq.mpr c5
      clear c5
      replace H := Option.bind_eq_some_iff.mp H
      obtain ⟨t219, A60, H⟩ := H
      replace H : (if t219 = true then ((plain_Is.f k t216 false).bind fun t220 => (if t220 = true then ((plain_Resolve.f t216).bind fun t221 => (if t221 = 3 then ((grommetlaw06_alive.f k).bind fun t222 => (some t222)) else (some false))) else (some false))) else (some false)) = some r := H
      have A6 := Aside0.mk A60
      clear A60
      by_cases c7 : t219 = true
      · subst c7
        have H1 : ((plain_Is.f k t216 false).bind fun t220 => (if t220 = true then ((plain_Resolve.f t216).bind fun t221 => (if t221 = 3 then ((grommetlaw06_alive.f k).bind fun t222 => (some t222)) else (some false))) else (some false))) = some r := by rw [if_pos rfl] at H; exact H
        clear H
        have H := H1
        clear H1
        replace H := Option.bind_eq_some_iff.mp H
        obtain ⟨t220, A80, H⟩ := H
        replace H : (if t220 = true then ((plain_Resolve.f t216).bind fun t221 => (if t221 = 3 then ((grommetlaw06_alive.f k).bind fun t222 => (some t222)) else (some false))) else (some false)) = some r := H
        have A8 := Aside0.mk A80
        clear A80
        by_cases c9 : t220 = true
        · subst c9
          have H1 : ((plain_Resolve.f t216).bind fun t221 => (if t221 = 3 then ((grommetlaw06_alive.f k).bind fun t222 => (some t222)) else (some false))) = some r := by rw [if_pos rfl] at H; exact H
          clear H
          have H := H1
          clear H1
          replace H := Option.bind_eq_some_iff.mp H
          obtain ⟨t221, A100, H⟩ := H
          replace H : (if t221 = 3 then ((grommetlaw06_alive.f k).bind fun t222 => (some t222)) else (some false)) = some r := H
          have A10 := Aside0.mk A100
          clear A100
          by_cases c11 : t221 = 3
          · rw [if_pos c11] at H
            have c11b0 : (t221 == 3) = true := beq_iff_eq.mpr c11
            have c11b1 : (t221 != 3) = false := bne_eq_false_iff_eq.mpr c11
            clear c11
            replace H := Option.bind_eq_some_iff.mp H
            obtain ⟨t222, A120, H⟩ := H
            replace H : (some t222) = some r := H
            have A12 := Aside0.mk A120
            clear A120
            obtain rfl := Option.some.inj H
            go_enter Tryd.func8, Tryd.ntmps8
            go_wp2_with (first | ((with_reducible refine gate_callee (f := 19) rfl ?_); refine goesL_ (some 7) rfl rfl Tryd.func19 (by kernel_rfl) rfl #[.int .i64 a0] rfl (by (try simp only [List.map_toArray, List.map_cons, List.map_nil]); first | done | rfl | (simp only [List.length_drop, List.length_take]; rfl)) ?_; (with_reducible refine (plain_Text.calls a0 t216 _ (hG.below (by first | ((repeat (first | (with_reducible first | exact HB.out | apply below_alloc | apply pw_below_drewN | apply below_drew1 | (refine Glob.below_set ?_ (by assumption) _ _ _)) | exact HB.out)); done) | (refine Drawn0.below ?_; repeat (first | exact Drawn0.refl _ | assumption | apply Drawn0.step)))) A2.out).mono ?_); rintro e w13 ⟨rfl, hb⟩; refine ⟨_, rfl, ?_⟩; have n0_ := Aside0.mk (below_step (by repeat (first | (with_reducible first | exact HB.out | apply below_alloc | apply pw_below_drewN | apply below_drew1) | exact HB.out)) hb); clear HB; have HB := n0_; clear n0_; (try clear hb); (try clear hb2); (try clear hk); (try clear hi)) | ((with_reducible refine gate_callee (f := 15) rfl ?_); refine goesL_ (some 10) rfl rfl Tryd.func15 (by kernel_rfl) rfl #[.string t216] rfl (by (try simp only [List.map_toArray, List.map_cons, List.map_nil]); first | done | rfl | (simp only [List.length_drop, List.length_take]; rfl)) ?_; (with_reducible refine (plain_Number.calls t216 t217 true _ (hG.below (by first | ((repeat (first | (with_reducible first | exact HB.out | apply below_alloc | apply pw_below_drewN | apply below_drew1 | (refine Glob.below_set ?_ (by assumption) _ _ _)) | exact HB.out)); done) | (refine Drawn0.below ?_; repeat (first | exact Drawn0.refl _ | assumption | apply Drawn0.step)))) A3.out).mono ?_); rintro e w14 ⟨rfl, hb⟩; refine ⟨_, rfl, ?_⟩; have n0_ := Aside0.mk (below_step (by repeat (first | (with_reducible first | exact HB.out | apply below_alloc | apply pw_below_drewN | apply below_drew1) | exact HB.out)) hb); clear HB; have HB := n0_; clear n0_; (try clear hb); (try clear hb2); (try clear hk); (try clear hi)) | (go_at_call 10; (with_reducible refine (plain_Is.calls k t216 true true _ (hG.below (by first | ((repeat (first | (with_reducible first | exact HB.out | apply below_alloc | apply pw_below_drewN | apply below_drew1 | (refine Glob.below_set ?_ (by assumption) _ _ _)) | exact HB.out)); done) | (refine Drawn0.below ?_; repeat (first | exact Drawn0.refl _ | assumption | apply Drawn0.step)))) A6.out).mono ?_); rintro e w15 ⟨rfl, hb⟩; have n0_ := Aside0.mk (below_step (by repeat (first | (with_reducible first | exact HB.out | apply below_alloc | apply pw_below_drewN | apply below_drew1) | exact HB.out)) hb); clear HB; have HB := n0_; clear n0_; (try clear hb); (try clear hb2); (try clear hk); (try clear hi)) | (go_at_call 10; (with_reducible refine (plain_Is.calls k t216 false true _ (hG.below (by first | ((repeat (first | (with_reducible first | exact HB.out | apply below_alloc | apply pw_below_drewN | apply below_drew1 | (refine Glob.below_set ?_ (by assumption) _ _ _)) | exact HB.out)); done) | (refine Drawn0.below ?_; repeat (first | exact Drawn0.refl _ | assumption | apply Drawn0.step)))) A8.out).mono ?_); rintro e w16 ⟨rfl, hb⟩; have n0_ := Aside0.mk (below_step (by repeat (first | (with_reducible first | exact HB.out | apply below_alloc | apply pw_below_drewN | apply below_drew1) | exact HB.out)) hb); clear HB; have HB := n0_; clear n0_; (try clear hb); (try clear hb2); (try clear hk); (try clear hi)) | (go_at_call 17; (with_reducible refine (plain_Resolve.calls t216 t221 _ (hG.below (by first | ((repeat (first | (with_reducible first | exact HB.out | apply below_alloc | apply pw_below_drewN | apply below_drew1 | (refine Glob.below_set ?_ (by assumption) _ _ _)) | exact HB.out)); done) | (refine Drawn0.below ?_; repeat (first | exact Drawn0.refl _ | assumption | apply Drawn0.step)))) A10.out).mono ?_); rintro e w17 ⟨rfl, hb⟩; have n0_ := Aside0.mk (below_step (by repeat (first | (with_reducible first | exact HB.out | apply below_alloc | apply pw_below_drewN | apply below_drew1) | exact HB.out)) hb); clear HB; have HB := n0_; clear n0_; (try clear hb); (try clear hb2); (try clear hk); (try clear hi)) | (go_at_call 12; (with_reducible refine (grommetlaw06_alive.calls k  t222 _ (hG.below (by first | ((repeat (first | (with_reducible first | exact HB.out | apply below_alloc | apply pw_below_drewN | apply below_drew1 | (refine Glob.below_set ?_ (by assumption) _ _ _)) | exact HB.out)); done) | (refine Drawn0.below ?_; repeat (first | exact Drawn0.refl _ | assumption | apply Drawn0.step)))) A12.out).mono ?_); rintro e w18 ⟨rfl, hb⟩; have n0_ := Aside0.mk (below_step (by repeat (first | (with_reducible first | exact HB.out | apply below_alloc | apply pw_below_drewN | apply below_drew1) | exact HB.out)) hb); clear HB; have HB := n0_; clear n0_; (try clear hb); (try clear hb2); (try clear hk); (try clear hi)))
            go_ret
            exact ⟨by first | rfl | (simp [errW_none, errW_some] <;> rfl) | (simp [*, errW_none, errW_some] <;> rfl), by repeat (first | (with_reducible first | exact HB.out | apply below_alloc | apply pw_below_drewN | apply below_drew1) | exact HB.out)⟩
          · rw [if_neg c11] at H
            have c11b0 : (t221 == 3) = false := beq_eq_false_iff_ne.mpr c11
            have c11b1 : (t221 != 3) = true := bne_iff_ne.mpr c11
            obtain rfl := Option.some.inj H
            go_enter Tryd.func8, Tryd.ntmps8
            go_wp2_with (first | ((with_reducible refine gate_callee (f := 19) rfl ?_); refine goesL_ (some 7) rfl rfl Tryd.func19 (by kernel_rfl) rfl #[.int .i64 a0] rfl (by (try simp only [List.map_toArray, List.map_cons, List.map_nil]); first | done | rfl | (simp only [List.length_drop, List.length_take]; rfl)) ?_; (with_reducible refine (plain_Text.calls a0 t216 _ (hG.below (by first | ((repeat (first | (with_reducible first | exact HB.out | apply below_alloc | apply pw_below_drewN | apply below_drew1 | (refine Glob.below_set ?_ (by assumption) _ _ _)) | exact HB.out)); done) | (refine Drawn0.below ?_; repeat (first | exact Drawn0.refl _ | assumption | apply Drawn0.step)))) A2.out).mono ?_); rintro e w19 ⟨rfl, hb⟩; refine ⟨_, rfl, ?_⟩; have n0_ := Aside0.mk (below_step (by repeat (first | (with_reducible first | exact HB.out | apply below_alloc | apply pw_below_drewN | apply below_drew1) | exact HB.out)) hb); clear HB; have HB := n0_; clear n0_; (try clear hb); (try clear hb2); (try clear hk); (try clear hi)) | ((with_reducible refine gate_callee (f := 15) rfl ?_); refine goesL_ (some 10) rfl rfl Tryd.func15 (by kernel_rfl) rfl #[.string t216] rfl (by (try simp only [List.map_toArray, List.map_cons, List.map_nil]); first | done | rfl | (simp only [List.length_drop, List.length_take]; rfl)) ?_; (with_reducible refine (plain_Number.calls t216 t217 true _ (hG.below (by first | ((repeat (first | (with_reducible first | exact HB.out | apply below_alloc | apply pw_below_drewN | apply below_drew1 | (refine Glob.below_set ?_ (by assumption) _ _ _)) | exact HB.out)); done) | (refine Drawn0.below ?_; repeat (first | exact Drawn0.refl _ | assumption | apply Drawn0.step)))) A3.out).mono ?_); rintro e w20 ⟨rfl, hb⟩; refine ⟨_, rfl, ?_⟩; have n0_ := Aside0.mk (below_step (by repeat (first | (with_reducible first | exact HB.out | apply below_alloc | apply pw_below_drewN | apply below_drew1) | exact HB.out)) hb); clear HB; have HB := n0_; clear n0_; (try clear hb); (try clear hb2); (try clear hk); (try clear hi)) | (go_at_call 10; (with_reducible refine (plain_Is.calls k t216 true true _ (hG.below (by first | ((repeat (first | (with_reducible first | exact HB.out | apply below_alloc | apply pw_below_drewN | apply below_drew1 | (refine Glob.below_set ?_ (by assumption) _ _ _)) | exact HB.out)); done) | (refine Drawn0.below ?_; repeat (first | exact Drawn0.refl _ | assumption | apply Drawn0.step)))) A6.out).mono ?_); rintro e w21 ⟨rfl, hb⟩; have n0_ := Aside0.mk (below_step (by repeat (first | (with_reducible first | exact HB.out | apply below_alloc | apply pw_below_drewN | apply below_drew1) | exact HB.out)) hb); clear HB; have HB := n0_; clear n0_; (try clear hb); (try clear hb2); (try clear hk); (try clear hi)) | (go_at_call 10; (with_reducible refine (plain_Is.calls k t216 false true _ (hG.below (by first | ((repeat (first | (with_reducible first | exact HB.out | apply below_alloc | apply pw_below_drewN | apply below_drew1 | (refine Glob.below_set ?_ (by assumption) _ _ _)) | exact HB.out)); done) | (refine Drawn0.below ?_; repeat (first | exact Drawn0.refl _ | assumption | apply Drawn0.step)))) A8.out).mono ?_); rintro e w22 ⟨rfl, hb⟩; have n0_ := Aside0.mk (below_step (by repeat (first | (with_reducible first | exact HB.out | apply below_alloc | apply pw_below_drewN | apply below_drew1) | exact HB.out)) hb); clear HB; have HB := n0_; clear n0_; (try clear hb); (try clear hb2); (try clear hk); (try clear hi)) | (go_at_call 17; (with_reducible refine (plain_Resolve.calls t216 t221 _ (hG.below (by first | ((repeat (first | (with_reducible first | exact HB.out | apply below_alloc | apply pw_below_drewN | apply below_drew1 | (refine Glob.below_set ?_ (by assumption) _ _ _)) | exact HB.out)); done) | (refine Drawn0.below ?_; repeat (first | exact Drawn0.refl _ | assumption | apply Drawn0.step)))) A10.out).mono ?_); rintro e w23 ⟨rfl, hb⟩; have n0_ := Aside0.mk (below_step (by repeat (first | (with_reducible first | exact HB.out | apply below_alloc | apply pw_below_drewN | apply below_drew1) | exact HB.out)) hb); clear HB; have HB := n0_; clear n0_; (try clear hb); (try clear hb2); (try clear hk); (try clear hi)))
            go_ret
            exact ⟨by first | rfl | (simp [errW_none, errW_some] <;> rfl) | (simp [*, errW_none, errW_some] <;> rfl), by repeat (first | (with_reducible first | exact HB.out | apply below_alloc | apply pw_below_drewN | apply below_drew1) | exact HB.out)⟩
        · replace c9 := Bool.eq_false_iff.mpr c9
          subst c9
          have H1 : (some false) = some r := by rw [if_neg (show ¬ (false = true) by decide)] at H; exact H
          clear H
          have H := H1
          clear H1
          obtain rfl := Option.some.inj H
          go_enter Tryd.func8, Tryd.ntmps8
          go_wp2_with (first | ((with_reducible refine gate_callee (f := 19) rfl ?_); refine goesL_ (some 7) rfl rfl Tryd.func19 (by kernel_rfl) rfl #[.int .i64 a0] rfl (by (try simp only [List.map_toArray, List.map_cons, List.map_nil]); first | done | rfl | (simp only [List.length_drop, List.length_take]; rfl)) ?_; (with_reducible refine (plain_Text.calls a0 t216 _ (hG.below (by first | ((repeat (first | (with_reducible first | exact HB.out | apply below_alloc | apply pw_below_drewN | apply below_drew1 | (refine Glob.below_set ?_ (by assumption) _ _ _)) | exact HB.out)); done) | (refine Drawn0.below ?_; repeat (first | exact Drawn0.refl _ | assumption | apply Drawn0.step)))) A2.out).mono ?_); rintro e w24 ⟨rfl, hb⟩; refine ⟨_, rfl, ?_⟩; have n0_ := Aside0.mk (below_step (by repeat (first | (with_reducible first | exact HB.out | apply below_alloc | apply pw_below_drewN | apply below_drew1) | exact HB.out)) hb); clear HB; have HB := n0_; clear n0_; (try clear hb); (try clear hb2); (try clear hk); (try clear hi)) | ((with_reducible refine gate_callee (f := 15) rfl ?_); refine goesL_ (some 10) rfl rfl Tryd.func15 (by kernel_rfl) rfl #[.string t216] rfl (by (try simp only [List.map_toArray, List.map_cons, List.map_nil]); first | done | rfl | (simp only [List.length_drop, List.length_take]; rfl)) ?_; (with_reducible refine (plain_Number.calls t216 t217 true _ (hG.below (by first | ((repeat (first | (with_reducible first | exact HB.out | apply below_alloc | apply pw_below_drewN | apply below_drew1 | (refine Glob.below_set ?_ (by assumption) _ _ _)) | exact HB.out)); done) | (refine Drawn0.below ?_; repeat (first | exact Drawn0.refl _ | assumption | apply Drawn0.step)))) A3.out).mono ?_); rintro e w25 ⟨rfl, hb⟩; refine ⟨_, rfl, ?_⟩; have n0_ := Aside0.mk (below_step (by repeat (first | (with_reducible first | exact HB.out | apply below_alloc | apply pw_below_drewN | apply below_drew1) | exact HB.out)) hb); clear HB; have HB := n0_; clear n0_; (try clear hb); (try clear hb2); (try clear hk); (try clear hi)) | (go_at_call 10; (with_reducible refine (plain_Is.calls k t216 true true _ (hG.below (by first | ((repeat (first | (with_reducible first | exact HB.out | apply below_alloc | apply pw_below_drewN | apply below_drew1 | (refine Glob.below_set ?_ (by assumption) _ _ _)) | exact HB.out)); done) | (refine Drawn0.below ?_; repeat (first | exact Drawn0.refl _ | assumption | apply Drawn0.step)))) A6.out).mono ?_); rintro e w26 ⟨rfl, hb⟩; have n0_ := Aside0.mk (below_step (by repeat (first | (with_reducible first | exact HB.out | apply below_alloc | apply pw_below_drewN | apply below_drew1) | exact HB.out)) hb); clear HB; have HB := n0_; clear n0_; (try clear hb); (try clear hb2); (try clear hk); (try clear hi)) | (go_at_call 10; (with_reducible refine (plain_Is.calls k t216 false false _ (hG.below (by first | ((repeat (first | (with_reducible first | exact HB.out | apply below_alloc | apply pw_below_drewN | apply below_drew1 | (refine Glob.below_set ?_ (by assumption) _ _ _)) | exact HB.out)); done) | (refine Drawn0.below ?_; repeat (first | exact Drawn0.refl _ | assumption | apply Drawn0.step)))) A8.out).mono ?_); rintro e w27 ⟨rfl, hb⟩; have n0_ := Aside0.mk (below_step (by repeat (first | (with_reducible first | exact HB.out | apply below_alloc | apply pw_below_drewN | apply below_drew1) | exact HB.out)) hb); clear HB; have HB := n0_; clear n0_; (try clear hb); (try clear hb2); (try clear hk); (try clear hi)))
          go_ret
          exact ⟨by first | rfl | (simp [errW_none, errW_some] <;> rfl) | (simp [*, errW_none, errW_some] <;> rfl), by repeat (first | (with_reducible first | exact HB.out | apply below_alloc | apply pw_below_drewN | apply below_drew1) | exact HB.out)⟩
      · replace c7 := Bool.eq_false_iff.mpr c7
        subst c7
        have H1 : (some false) = some r := by rw [if_neg (show ¬ (false = true) by decide)] at H; exact H
        clear H
        have H := H1
        clear H1
        obtain rfl := Option.some.inj H
        go_enter Tryd.func8, Tryd.ntmps8
        go_wp2_with (first | ((with_reducible refine gate_callee (f := 19) rfl ?_); refine goesL_ (some 7) rfl rfl Tryd.func19 (by kernel_rfl) rfl #[.int .i64 a0] rfl (by (try simp only [List.map_toArray, List.map_cons, List.map_nil]); first | done | rfl | (simp only [List.length_drop, List.length_take]; rfl)) ?_; (with_reducible refine (plain_Text.calls a0 t216 _ (hG.below (by first | ((repeat (first | (with_reducible first | exact HB.out | apply below_alloc | apply pw_below_drewN | apply below_drew1 | (refine Glob.below_set ?_ (by assumption) _ _ _)) | exact HB.out)); done) | (refine Drawn0.below ?_; repeat (first | exact Drawn0.refl _ | assumption | apply Drawn0.step)))) A2.out).mono ?_); rintro e w28 ⟨rfl, hb⟩; refine ⟨_, rfl, ?_⟩; have n0_ := Aside0.mk (below_step (by repeat (first | (with_reducible first | exact HB.out | apply below_alloc | apply pw_below_drewN | apply below_drew1) | exact HB.out)) hb); clear HB; have HB := n0_; clear n0_; (try clear hb); (try clear hb2); (try clear hk); (try clear hi)) | ((with_reducible refine gate_callee (f := 15) rfl ?_); refine goesL_ (some 10) rfl rfl Tryd.func15 (by kernel_rfl) rfl #[.string t216] rfl (by (try simp only [List.map_toArray, List.map_cons, List.map_nil]); first | done | rfl | (simp only [List.length_drop, List.length_take]; rfl)) ?_; (with_reducible refine (plain_Number.calls t216 t217 true _ (hG.below (by first | ((repeat (first | (with_reducible first | exact HB.out | apply below_alloc | apply pw_below_drewN | apply below_drew1 | (refine Glob.below_set ?_ (by assumption) _ _ _)) | exact HB.out)); done) | (refine Drawn0.below ?_; repeat (first | exact Drawn0.refl _ | assumption | apply Drawn0.step)))) A3.out).mono ?_); rintro e w29 ⟨rfl, hb⟩; refine ⟨_, rfl, ?_⟩; have n0_ := Aside0.mk (below_step (by repeat (first | (with_reducible first | exact HB.out | apply below_alloc | apply pw_below_drewN | apply below_drew1) | exact HB.out)) hb); clear HB; have HB := n0_; clear n0_; (try clear hb); (try clear hb2); (try clear hk); (try clear hi)) | (go_at_call 10; (with_reducible refine (plain_Is.calls k t216 true false _ (hG.below (by first | ((repeat (first | (with_reducible first | exact HB.out | apply below_alloc | apply pw_below_drewN | apply below_drew1 | (refine Glob.below_set ?_ (by assumption) _ _ _)) | exact HB.out)); done) | (refine Drawn0.below ?_; repeat (first | exact Drawn0.refl _ | assumption | apply Drawn0.step)))) A6.out).mono ?_); rintro e w30 ⟨rfl, hb⟩; have n0_ := Aside0.mk (below_step (by repeat (first | (with_reducible first | exact HB.out | apply below_alloc | apply pw_below_drewN | apply below_drew1) | exact HB.out)) hb); clear HB; have HB := n0_; clear n0_; (try clear hb); (try clear hb2); (try clear hk); (try clear hi)))
        go_ret
        exact ⟨by first | rfl | (simp [errW_none, errW_some] <;> rfl) | (simp [*, errW_none, errW_some] <;> rfl), by repeat (first | (with_reducible first | exact HB.out | apply below_alloc | apply pw_below_drewN | apply below_drew1) | exact HB.out)⟩
    · rw [if_neg c5] at H
      have c5b0 : (t217 == a0) = false := beq_eq_false_iff_ne.mpr c5
      have c5b1 : (t217 != a0) = true := bne_iff_ne.mpr c5
      obtain rfl := Option.some.inj H
      go_enter Tryd.func8, Tryd.ntmps8
      go_wp2_with (first | ((with_reducible refine gate_callee (f := 19) rfl ?_); refine goesL_ (some 7) rfl rfl Tryd.func19 (by kernel_rfl) rfl #[.int .i64 a0] rfl (by (try simp only [List.map_toArray, List.map_cons, List.map_nil]); first | done | rfl | (simp only [List.length_drop, List.length_take]; rfl)) ?_; (with_reducible refine (plain_Text.calls a0 t216 _ (hG.below (by first | ((repeat (first | (with_reducible first | exact HB.out | apply below_alloc | apply pw_below_drewN | apply below_drew1 | (refine Glob.below_set ?_ (by assumption) _ _ _)) | exact HB.out)); done) | (refine Drawn0.below ?_; repeat (first | exact Drawn0.refl _ | assumption | apply Drawn0.step)))) A2.out).mono ?_); rintro e w31 ⟨rfl, hb⟩; refine ⟨_, rfl, ?_⟩; have n0_ := Aside0.mk (below_step (by repeat (first | (with_reducible first | exact HB.out | apply below_alloc | apply pw_below_drewN | apply below_drew1) | exact HB.out)) hb); clear HB; have HB := n0_; clear n0_; (try clear hb); (try clear hb2); (try clear hk); (try clear hi)) | ((with_reducible refine gate_callee (f := 15) rfl ?_); refine goesL_ (some 10) rfl rfl Tryd.func15 (by kernel_rfl) rfl #[.string t216] rfl (by (try simp only [List.map_toArray, List.map_cons, List.map_nil]); first | done | rfl | (simp only [List.length_drop, List.length_take]; rfl)) ?_; (with_reducible refine (plain_Number.calls t216 t217 true _ (hG.below (by first | ((repeat (first | (with_reducible first | exact HB.out | apply below_alloc | apply pw_below_drewN | apply below_drew1 | (refine Glob.below_set ?_ (by assumption) _ _ _)) | exact HB.out)); done) | (refine Drawn0.below ?_; repeat (first | exact Drawn0.refl _ | assumption | apply Drawn0.step)))) A3.out).mono ?_); rintro e w32 ⟨rfl, hb⟩; refine ⟨_, rfl, ?_⟩; have n0_ := Aside0.mk (below_step (by repeat (first | (with_reducible first | exact HB.out | apply below_alloc | apply pw_below_drewN | apply below_drew1) | exact HB.out)) hb); clear HB; have HB := n0_; clear n0_; (try clear hb); (try clear hb2); (try clear hk); (try clear hi)))
      go_ret
      exact ⟨by first | rfl | (simp [errW_none, errW_some] <;> rfl) | (simp [*, errW_none, errW_some] <;> rfl), by repeat (first | (with_reducible first | exact HB.out | apply below_alloc | apply pw_below_drewN | apply below_drew1) | exact HB.out)⟩
  · replace c4 := Bool.eq_false_iff.mpr c4
    subst c4
    have H1 : (some false) = some r := by rw [if_neg (show ¬ (false = true) by decide)] at H; exact H
    clear H
    have H := H1
    clear H1
    obtain rfl := Option.some.inj H
    go_enter Tryd.func8, Tryd.ntmps8
    go_wp2_with (first | ((with_reducible refine gate_callee (f := 19) rfl ?_); refine goesL_ (some 7) rfl rfl Tryd.func19 (by kernel_rfl) rfl #[.int .i64 a0] rfl (by (try simp only [List.map_toArray, List.map_cons, List.map_nil]); first | done | rfl | (simp only [List.length_drop, List.length_take]; rfl)) ?_; (with_reducible refine (plain_Text.calls a0 t216 _ (hG.below (by first | ((repeat (first | (with_reducible first | exact HB.out | apply below_alloc | apply pw_below_drewN | apply below_drew1 | (refine Glob.below_set ?_ (by assumption) _ _ _)) | exact HB.out)); done) | (refine Drawn0.below ?_; repeat (first | exact Drawn0.refl _ | assumption | apply Drawn0.step)))) A2.out).mono ?_); rintro e w33 ⟨rfl, hb⟩; refine ⟨_, rfl, ?_⟩; have n0_ := Aside0.mk (below_step (by repeat (first | (with_reducible first | exact HB.out | apply below_alloc | apply pw_below_drewN | apply below_drew1) | exact HB.out)) hb); clear HB; have HB := n0_; clear n0_; (try clear hb); (try clear hb2); (try clear hk); (try clear hi)) | ((with_reducible refine gate_callee (f := 15) rfl ?_); refine goesL_ (some 10) rfl rfl Tryd.func15 (by kernel_rfl) rfl #[.string t216] rfl (by (try simp only [List.map_toArray, List.map_cons, List.map_nil]); first | done | rfl | (simp only [List.length_drop, List.length_take]; rfl)) ?_; (with_reducible refine (plain_Number.calls t216 t217 false _ (hG.below (by first | ((repeat (first | (with_reducible first | exact HB.out | apply below_alloc | apply pw_below_drewN | apply below_drew1 | (refine Glob.below_set ?_ (by assumption) _ _ _)) | exact HB.out)); done) | (refine Drawn0.below ?_; repeat (first | exact Drawn0.refl _ | assumption | apply Drawn0.step)))) A3.out).mono ?_); rintro e w34 ⟨rfl, hb⟩; refine ⟨_, rfl, ?_⟩; have n0_ := Aside0.mk (below_step (by repeat (first | (with_reducible first | exact HB.out | apply below_alloc | apply pw_below_drewN | apply below_drew1) | exact HB.out)) hb); clear HB; have HB := n0_; clear n0_; (try clear hb); (try clear hb2); (try clear hk); (try clear hi)))
    go_ret
    exact ⟨by first | rfl | (simp [errW_none, errW_some] <;> rfl) | (simp [*, errW_none, errW_some] <;> rfl), by repeat (first | (with_reducible first | exact HB.out | apply below_alloc | apply pw_below_drewN | apply below_drew1) | exact HB.out)⟩

end Go.Proofs.YtephdpgkildeoaaDoor.PX

/- A number's text, in plain terms: it is read back as the number, all its bytes are digits behind a sign, and it is plain. No program in sight. -/
namespace Go.Proofs.YtephdpgkildeoaaDoor.Plain
open Go.RowKit Go.Proofs.YtephdpgkildeoaaDoor.PX Go.Proofs.YtephdpgkildeoaaDoor.Utf Go.Proofs.YtephdpgkildeoaaDoor.Plug Go.Proofs.YtephdpgkildeoaaDoorW.PrintWords Go.Proofs.YtephdpgkildeoaaDoorW.PrintLast

theorem parse_append : ∀ (l r : List UInt8) (acc a : Nat), Lib.parseUint10 acc l = .ok a → Lib.parseUint10 acc (l ++ r) = Lib.parseUint10 a r
  | [], r, acc, a, h => by
    simp only [Lib.parseUint10] at h
    injection h with h
    rw [h]; rfl
  | c :: l, r, acc, a, h => by
    simp only [List.cons_append, Lib.parseUint10] at h ⊢
    by_cases h1 : 48 ≤ c.toNat ∧ c.toNat ≤ 57
    · rw [if_pos h1] at h ⊢
      by_cases h2 : 1844674407370955162 ≤ acc
      · rw [if_pos h2] at h; cases h
      · rw [if_neg h2] at h ⊢
        by_cases h3 : 18446744073709551616 ≤ acc * 10 + (c.toNat - 48)
        · rw [if_pos h3] at h; cases h
        · rw [if_neg h3] at h ⊢
          exact parse_append l r _ a h
    · rw [if_neg h1] at h; cases h

theorem digit_nat (d : Nat) (h : d < 10) : (UInt8.ofNat (48 + d)).toNat = 48 + d := by
  simp only [UInt8.toNat_ofNat']; omega

theorem parse_dec (u : Nat) : u < 18446744073709551616 → Lib.parseUint10 0 (Lib.decDigits u) = .ok u := by
  induction u using Nat.strongRecOn with
  | _ u ih =>
    intro hu
    rw [Lib.decDigits]
    by_cases h : u < 10
    · rw [dif_pos h]
      have e := digit_nat u h
      simp only [Lib.parseUint10, e]
      rw [if_pos (by omega), if_neg (by omega), if_neg (by omega)]
      congr 1; omega
    · rw [dif_neg h, parse_append _ _ 0 (u / 10) (ih (u / 10) (by omega) (by omega))]
      have e := digit_nat (u % 10) (by omega)
      simp only [Lib.parseUint10, e]
      rw [if_pos (by omega), if_neg (by omega), if_neg (by omega)]
      congr 1; omega

theorem dec_ne (u : Nat) : Lib.decDigits u ≠ [] := by
  rw [Lib.decDigits]
  by_cases h : u < 10
  · rw [dif_pos h]; simp
  · rw [dif_neg h]; simp

theorem dec_digit (u : Nat) : ∀ c ∈ Lib.decDigits u, 48 ≤ c.toNat ∧ c.toNat ≤ 57 := by
  induction u using Nat.strongRecOn with
  | _ u ih =>
    rw [Lib.decDigits]
    by_cases h : u < 10
    · rw [dif_pos h]
      intro c hc
      rw [List.mem_singleton] at hc
      subst hc
      rw [digit_nat u h]; omega
    · rw [dif_neg h]
      intro c hc
      rcases List.mem_append.1 hc with hc | hc
      · exact ih (u / 10) (by omega) c hc
      · rw [List.mem_singleton] at hc
        subst hc
        rw [digit_nat (u % 10) (by omega)]; omega

theorem itoa_back (n : Int) (h0 : -9223372036854775808 ≤ n) (h1 : n ≤ 9223372036854775807) : Lib.atoiAll (Lib.itoa n) = .ok n := by
  unfold Lib.itoa
  by_cases h : n < 0
  · rw [if_pos h, Lib.atoiAll_minus]
    unfold Lib.parseMag
    rw [if_neg (dec_ne _), parse_dec _ (by omega)]
    unfold Lib.signed
    simp only
    rw [if_neg (by omega)]
    congr 1; omega
  · rw [if_neg h]
    have hd := dec_digit n.toNat
    have hp := parse_dec n.toNat (by omega)
    have hn := dec_ne n.toNat
    generalize Lib.decDigits n.toNat = l at hd hp hn
    cases l with
    | nil => exact absurd rfl hn
    | cons c r =>
      have hc := hd c (by simp)
      rw [Lib.atoiAll_plain c r (by omega) (by omega)]
      unfold Lib.parseMag
      rw [if_neg (by simp), hp]
      unfold Lib.signless
      simp only
      rw [if_neg (by omega)]
      congr 1; omega

theorem num_itoa (n : Int) (h0 : -9223372036854775808 ≤ n) (h1 : n ≤ 9223372036854775807) : numB (Lib.itoa n) = (n, true) := by
  unfold numB
  rw [itoa_back n h0 h1]
  simp

/-- A sign or none, then digits, and at least one. -/
def signed_ (l : List UInt8) : Prop := ∃ r : List UInt8, r ≠ [] ∧ (∀ c ∈ r, 48 ≤ c.toNat ∧ c.toNat ≤ 57) ∧ (l = r ∨ l = 45 :: r)
theorem itoa_signed (n : Int) : signed_ (Lib.itoa n) := by
  unfold Lib.itoa
  by_cases h : n < 0
  · rw [if_pos h]; exact ⟨_, dec_ne _, dec_digit _, .inr rfl⟩
  · rw [if_neg h]; exact ⟨_, dec_ne _, dec_digit _, .inl rfl⟩

theorem at_mem (l : List UInt8) (j : Nat) (h : j < l.length) : ∃ c ∈ l, at_ l j = c.toNat := ⟨l[j], List.getElem_mem h, by unfold at_; rw [List.getD_eq_getElem?_getD, List.getElem?_eq_getElem h]; rfl⟩
theorem at_out (l : List UInt8) (j : Nat) (h : l.length ≤ j) : at_ l j = 0 := by unfold at_; rw [List.getD_eq_getElem?_getD, List.getElem?_eq_none h]; rfl
theorem at_cons (c : UInt8) (l : List UInt8) (j : Nat) : at_ (c :: l) (j + 1) = at_ l j := by unfold at_; rfl

/-- Every byte of it is a digit, but for a sign ahead. -/
theorem signed_at {l : List UInt8} (h : signed_ l) : (∀ j, j < l.length → (48 ≤ at_ l j ∧ at_ l j ≤ 57) ∨ (at_ l j = 45 ∧ j = 0)) ∧ (at_ l 0 = 45 → 48 ≤ at_ l 1 ∧ at_ l 1 ≤ 57) ∧ 0 < l.length := by
  obtain ⟨r, hr, hd, rfl | rfl⟩ := h
  · have hl := List.length_pos_iff.2 hr
    have hat : ∀ j, j < l.length → 48 ≤ at_ l j ∧ at_ l j ≤ 57 := fun j hj => by
      obtain ⟨c, hc, e⟩ := at_mem l j hj
      rw [e]; exact hd c hc
    refine ⟨fun j hj => .inl (hat j hj), fun q => ?_, hl⟩
    have := hat 0 hl
    omega
  · have hl := List.length_pos_iff.2 hr
    refine ⟨fun j hj => ?_, fun _ => ?_, by simp⟩
    · cases j with
      | zero => exact .inr ⟨rfl, rfl⟩
      | succ j =>
        rw [at_cons]
        obtain ⟨c, hc, e⟩ := at_mem r j (by simpa using hj)
        rw [e]; exact .inl (hd c hc)
    · rw [show (1 : Nat) = 0 + 1 from rfl, at_cons]
      obtain ⟨c, hc, e⟩ := at_mem r 0 hl
      rw [e]; exact hd c hc

theorem dec_ascii (l : List UInt8) (h : l ≠ []) (h0 : at_ l 0 < 128) : dec l = ((at_ l 0 : Int), 1) := by
  have hl := List.length_pos_iff.2 h
  unfold dec
  rw [if_neg h]
  have e : Lib.decodeN l.length (at_ l 0) (at_ l 1) (at_ l 2) (at_ l 3) = (at_ l 0, 1) := by
    unfold Lib.decodeN
    simp [h0]
  rw [e, if_neg (by simp; omega)]

/-- Texts of printable ASCII are whole signs. -/
theorem stop_ascii (l : List UInt8) (h : ∀ j, j < l.length → 32 ≤ at_ l j ∧ at_ l j ≤ 126) : ∀ k i, i ≤ l.length → l.length ≤ i + k → stopF k l i = l.length
  | 0, i, hi, hk => by unfold stopF; omega
  | k + 1, i, hi, hk => by
    unfold stopF
    by_cases q : i < l.length
    · have ha : at_ (l.drop i) 0 = at_ l i := by rw [at_drop, Nat.add_zero]
      have hb := h i q
      have hd := dec_ascii (l.drop i) (by simp; omega) (by rw [ha]; omega)
      rw [if_pos q, hd, ha]
      simp only
      rw [if_pos (by unfold prt; simp; omega)]
      exact stop_ascii l h k (i + 1) (by omega) (by omega)
    · rw [if_neg q]; omega

theorem fault_ascii (l : List UInt8) (h : ∀ j, j < l.length → 32 ≤ at_ l j ∧ at_ l j ≤ 126) : fault l = (0, 0) := by
  unfold fault stop
  rw [stop_ascii l h l.length 0 (by omega) (by omega), if_neg (by omega)]

theorem flow_digit (c : Nat) (h : (48 ≤ c ∧ c ≤ 57) ∨ c = 45) : flowAt c = false := by
  unfold flowAt
  simp only [Bool.or_eq_false_iff, beq_eq_false_iff_ne]
  omega

theorem mark_digit (c : Nat) (h : (48 ≤ c ∧ c ≤ 57) ∨ c = 45) : markAt c = false := by
  unfold markAt
  simp only [Bool.or_eq_false_iff, beq_eq_false_iff_ne]
  omega

theorem signed_plain {l : List UInt8} (h : signed_ l) (flow : Bool) : isB l flow = true := by
  obtain ⟨hat, h1, hl⟩ := signed_at h
  have hf : ∀ j, j < l.length → flowAt (at_ l j) = false := fun j hj => flow_digit _ ((hat j hj).imp id (·.1))
  have h0 := hat 0 hl
  have hz := hat (l.length - 1) (by omega)
  unfold isB
  simp only [Bool.and_eq_true, decide_eq_true_eq, bne_iff_ne, ne_eq, Bool.not_eq_true']
  refine ⟨⟨⟨⟨⟨⟨⟨⟨fault_ascii l fun j hj => ?_, ?_⟩, ?_⟩, ?_⟩, ?_⟩, ?_⟩, ?_⟩, ?_⟩, ?_⟩
  · have := hat j hj; omega
  · rintro rfl; exact absurd hl (by simp)
  · rintro rfl
    have := h1 rfl
    rw [show at_ [45] 1 = 0 from rfl] at this
    omega
  · rintro rfl
    have := h1 rfl
    rw [show at_ [45, 45, 45] 1 = 45 from rfl] at this
    omega
  · omega
  · omega
  · exact mark_digit _ (h0.imp id (·.1))
  · by_cases q : at_ l 0 = 45
    · have := h1 q
      rw [flow_digit _ (.inl this)]
      simp
      intro _; omega
    · simp [q]
  · rw [okFrom_iff]
    intro j _ _ hj
    have ha := hat j hj
    unfold okAt endsAt
    rw [hf j hj]
    have e9 : (at_ l j != 9) = true := by simp; omega
    have e10 : (at_ l j != 10) = true := by simp; omega
    have e13 : (at_ l j != 13) = true := by simp; omega
    have e58 : (at_ l j == 58) = false := by simp; omega
    have e35 : (at_ l j == 35) = false := by simp; omega
    rw [e9, e10, e13, e58, e35]
    simp

theorem signed_res {l : List UInt8} (h : signed_ l) (hn : (numB l).2 = true) : resB l = 3 := by
  obtain ⟨hat, _, hl⟩ := signed_at h
  have h0 := hat 0 hl
  unfold resB
  rw [if_neg, if_neg, if_pos hn]
  · rintro (rfl | rfl)
    · rw [show at_ [116, 114, 117, 101] 0 = 116 from rfl] at h0; omega
    · rw [show at_ [102, 97, 108, 115, 101] 0 = 102 from rfl] at h0; omega
  · rintro (rfl | rfl | rfl)
    · exact absurd hl (by simp)
    · rw [show at_ [126] 0 = 126 from rfl] at h0; omega
    · rw [show at_ [110, 117, 108, 108] 0 = 110 from rfl] at h0; omega
end Go.Proofs.YtephdpgkildeoaaDoor.Plain

/- PlainNumbers' pure statement: for every number of 64 bits the law's Lean function answers true. -/
namespace Go.Proofs.YtephdpgkildeoaaDoor.Pure
open Go.RowKit Go.Proofs.YtephdpgkildeoaaDoor.PX Go.Proofs.YtephdpgkildeoaaDoor.Plain Go.Proofs.YtephdpgkildeoaaDoor.Utf Go.Proofs.YtephdpgkildeoaaDoor.Plug Go.Proofs.YtephdpgkildeoaaDoorW.PrintWords Go.Proofs.YtephdpgkildeoaaDoorW.PrintLast

theorem PlainNumbers (n : Int) (hn : -9223372036854775808 ≤ n ∧ n ≤ 9223372036854775807) : ∃ k, grommetlaw06_PlainNumbers.f k n = some true := by
  refine ⟨2, ?_⟩
  have hlen := Lib.itoa_length_le n hn.1 hn.2
  have hT : plain_Text.f n = some ⟨(Lib.itoa n).toArray⟩ := by unfold plain_Text.f strconv_Itoa.f; rw [if_pos hn]; rfl
  have hs : (⟨(Lib.itoa n).toArray⟩ : ByteArray).size ≤ 140737488351232 := by rw [size_list]; show (Lib.itoa n).length ≤ _; omega
  have hN : plain_Number.f ⟨(Lib.itoa n).toArray⟩ = some (n, true) := by unfold plain_Number.f; rw [if_pos hs]; exact congrArg some (num_itoa n hn.1 hn.2)
  have hI : ∀ b, plain_Is.f 2 ⟨(Lib.itoa n).toArray⟩ b = some true := fun b => by rw [prog_Is 0 _ b hs]; exact congrArg some (signed_plain (itoa_signed n) b)
  have hR : plain_Resolve.f ⟨(Lib.itoa n).toArray⟩ = some 3 := by unfold plain_Resolve.f; rw [if_pos hs]; exact congrArg some (signed_res (itoa_signed n) (by rw [num_itoa n hn.1 hn.2]))
  unfold grommetlaw06_PlainNumbers.f
  rw [hT, Option.bind_some, hN, Option.bind_some, if_pos rfl, if_pos rfl, hI, Option.bind_some, if_pos rfl, hI, Option.bind_some, if_pos rfl, hR, Option.bind_some, if_pos rfl, alive_eq 0, Option.bind_some]
end Go.Proofs.YtephdpgkildeoaaDoor.Pure

/- YtephdpgkildeoaaDoorFGrommetlaw06PlainAhead: what print.py told of Go functions, for this claim. -/
namespace Go.Proofs.YtephdpgkildeoaaDoor.PX
open Go.RowKit Go.Proofs.YtephdpgkildeoaaDoorW.PrintWords Go.Proofs.YtephdpgkildeoaaDoorW.PrintLast Go.Proofs.YtephdpgkildeoaaDoorW.PrintMore Go.Proofs.YtephdpgkildeoaaDoor
attribute [local go_sem] max2_int min2_int max_two min_two max_three min_three max_four min_four   -- for this text's walks alone
set_option linter.unusedVariables false
set_option linter.unusedSimpArgs false

/-! ### grommetlaw06_PlainAhead: function 7 -/
mutual
def grommetlaw06_PlainAhead.j0 : Nat → ByteArray → ByteArray → Bool → ByteArray → Bool → Option (Bool)
  | 0, _, _, _, _, _ => none
  | k + 1, x0, x1, x2, x7, x36 => if x36 = true then (some false) else ((plain_Cut.f x7 x2).bind fun bt209 => (if bt209.1.toList = x7.toList then (grommetlaw06_PlainAhead.j1 k x0 x1 x2 x7 bt209.2 (bt209.2 != (x7.size : Int))) else (grommetlaw06_PlainAhead.j1 k x0 x1 x2 x7 bt209.2 true)))
def grommetlaw06_PlainAhead.j1 : Nat → ByteArray → ByteArray → Bool → ByteArray → Int → Bool → Option (Bool)
  | 0, _, _, _, _, _, _ => none
  | k + 1, x0, x1, x2, x7, x10, x51 => if x51 = true then (if x10 = (wrap64 ((x7.size : Int) - 1)) then (if 0 ≤ (wrap64 ((x7.size : Int) - 1)) then (if (wrap64 ((x7.size : Int) - 1)) < (x7.size : Int) then (if (bt x7 (wrap64 ((x7.size : Int) - 1))) = 58 then (grommetlaw06_PlainAhead.j2 k x0 x1 x2) else (some false)) else (none)) else (none)) else (some false)) else (grommetlaw06_PlainAhead.j2 k x0 x1 x2)
def grommetlaw06_PlainAhead.j2 : Nat → ByteArray → ByteArray → Bool → Option (Bool)
  | 0, _, _, _ => none
  | k + 1, x0, x1, x2 => (plain_Is.f k x1 x2).bind fun t211 => (if t211 = true then (if x1.size + 2 ≤ 9223372036854775807 then (if (x1 ++ (⟨#[58, 32]⟩ : ByteArray)).size + x0.size ≤ 9223372036854775807 then ((plain_Cut.f ((x1 ++ (⟨#[58, 32]⟩ : ByteArray)) ++ x0) x2).bind fun bt212 => (if bt212.1.toList = x1.toList then (if bt212.2 = (x1.size : Int) then ((grommetlaw06_alive.f k).bind fun t214 => (some t214)) else (some false)) else (some false))) else (none)) else (none)) else ((grommetlaw06_alive.f k).bind fun t215 => (some t215)))
end
def grommetlaw06_PlainAhead.f (k : Nat) (a0 : ByteArray) (a1 : ByteArray) (a2 : Bool) : Option (Bool) := (plain_Cut.f a0 a2).bind fun bt207 => (if bt207.2 < (bt207.1.size : Int) then (grommetlaw06_PlainAhead.j0 k a0 a1 a2 bt207.1 true) else (if bt207.2 > (a0.size : Int) then (grommetlaw06_PlainAhead.j0 k a0 a1 a2 bt207.1 true) else (if 0 ≤ (bt207.1.size : Int) then (if (bt207.1.size : Int) ≤ (a0.size : Int) then (grommetlaw06_PlainAhead.j0 k a0 a1 a2 bt207.1 ((a0.extract 0 ((bt207.1.size : Int) : Int).toNat).toList != bt207.1.toList)) else (none)) else (none))))
theorem grommetlaw06_PlainAhead.mono_l : ∀ k, (∀ y0 y1 y2 y3 y4, LeO (grommetlaw06_PlainAhead.j0 k y0 y1 y2 y3 y4) (grommetlaw06_PlainAhead.j0 (k + 1) y0 y1 y2 y3 y4)) ∧ (∀ y0 y1 y2 y3 y4 y5, LeO (grommetlaw06_PlainAhead.j1 k y0 y1 y2 y3 y4 y5) (grommetlaw06_PlainAhead.j1 (k + 1) y0 y1 y2 y3 y4 y5)) ∧ (∀ y0 y1 y2, LeO (grommetlaw06_PlainAhead.j2 k y0 y1 y2) (grommetlaw06_PlainAhead.j2 (k + 1) y0 y1 y2))
  | 0 => ⟨fun _ _ _ _ _ r h => by simp [grommetlaw06_PlainAhead.j0] at h, fun _ _ _ _ _ _ r h => by simp [grommetlaw06_PlainAhead.j1] at h, fun _ _ _ r h => by simp [grommetlaw06_PlainAhead.j2] at h⟩
  | k + 1 => by
    obtain ⟨ih0, ih1, ih2⟩ := grommetlaw06_PlainAhead.mono_l k
    refine ⟨?_, ?_, ?_⟩
    · intro y0 y1 y2 y3 y4
      unfold grommetlaw06_PlainAhead.j0
      repeat' first
      | (with_reducible exact ih0 _ _ _ _ _)
      | (with_reducible exact ih1 _ _ _ _ _ _)
      | (with_reducible exact ih2 _ _ _)
      | (with_reducible exact grommetlaw06_alive.mono _)
      | (with_reducible exact plain_Is.mono _ _ _)
      | (with_reducible exact LeO.refl _)
      | (with_reducible exact LeO.none _)
      | (with_reducible refine LeO.ite ?_ ?_)
      | (with_reducible refine LeO.bind ?_ (fun _ => ?_))
      | exact ih0 _ _ _ _ _
      | exact ih1 _ _ _ _ _ _
      | exact ih2 _ _ _
      | exact grommetlaw06_alive.mono _
      | exact plain_Is.mono _ _ _
      | exact LeO.none _
      | refine LeO.ite ?_ ?_
      | refine LeO.bind ?_ (fun _ => ?_)
    · intro y0 y1 y2 y3 y4 y5
      unfold grommetlaw06_PlainAhead.j1
      repeat' first
      | (with_reducible exact ih0 _ _ _ _ _)
      | (with_reducible exact ih1 _ _ _ _ _ _)
      | (with_reducible exact ih2 _ _ _)
      | (with_reducible exact grommetlaw06_alive.mono _)
      | (with_reducible exact plain_Is.mono _ _ _)
      | (with_reducible exact LeO.refl _)
      | (with_reducible exact LeO.none _)
      | (with_reducible refine LeO.ite ?_ ?_)
      | (with_reducible refine LeO.bind ?_ (fun _ => ?_))
      | exact ih0 _ _ _ _ _
      | exact ih1 _ _ _ _ _ _
      | exact ih2 _ _ _
      | exact grommetlaw06_alive.mono _
      | exact plain_Is.mono _ _ _
      | exact LeO.none _
      | refine LeO.ite ?_ ?_
      | refine LeO.bind ?_ (fun _ => ?_)
    · intro y0 y1 y2
      unfold grommetlaw06_PlainAhead.j2
      repeat' first
      | (with_reducible exact ih0 _ _ _ _ _)
      | (with_reducible exact ih1 _ _ _ _ _ _)
      | (with_reducible exact ih2 _ _ _)
      | (with_reducible exact grommetlaw06_alive.mono _)
      | (with_reducible exact plain_Is.mono _ _ _)
      | (with_reducible exact LeO.refl _)
      | (with_reducible exact LeO.none _)
      | (with_reducible refine LeO.ite ?_ ?_)
      | (with_reducible refine LeO.bind ?_ (fun _ => ?_))
      | exact ih0 _ _ _ _ _
      | exact ih1 _ _ _ _ _ _
      | exact ih2 _ _ _
      | exact grommetlaw06_alive.mono _
      | exact plain_Is.mono _ _ _
      | exact LeO.none _
      | refine LeO.ite ?_ ?_
      | refine LeO.bind ?_ (fun _ => ?_)
theorem grommetlaw06_PlainAhead.mono : ∀ a0 a1 a2 k, LeO (grommetlaw06_PlainAhead.f k a0 a1 a2) (grommetlaw06_PlainAhead.f (k + 1) a0 a1 a2) := by
  intro a0 a1 a2 k
  obtain ⟨ih0, ih1, ih2⟩ := grommetlaw06_PlainAhead.mono_l k
  unfold grommetlaw06_PlainAhead.f
  repeat' first
      | (with_reducible exact ih0 _ _ _ _ _)
      | (with_reducible exact ih1 _ _ _ _ _ _)
      | (with_reducible exact ih2 _ _ _)
      | (with_reducible exact grommetlaw06_alive.mono _)
      | (with_reducible exact plain_Is.mono _ _ _)
      | (with_reducible exact LeO.refl _)
      | (with_reducible exact LeO.none _)
      | (with_reducible refine LeO.ite ?_ ?_)
      | (with_reducible refine LeO.bind ?_ (fun _ => ?_))
      | exact ih0 _ _ _ _ _
      | exact ih1 _ _ _ _ _ _
      | exact ih2 _ _ _
      | exact grommetlaw06_alive.mono _
      | exact plain_Is.mono _ _ _
      | exact LeO.none _
      | refine LeO.ite ?_ ?_
      | refine LeO.bind ?_ (fun _ => ?_)
set_option maxHeartbeats 8000000 in
set_option maxRecDepth 100000 in
theorem grommetlaw06_PlainAhead.calls (k : Nat) (a0 : ByteArray) (a1 : ByteArray) (a2 : Bool) (r : Bool) (w : World) (hG : Glob.G w) (h : grommetlaw06_PlainAhead.f k a0 a1 a2 = some r) :
    Calls Tryd.prog 7 #[.string a0, .string a1, .bool a2] w fun e w' => e = .returned (.bool r) ∧ Below w.heap.size w w' := by
  have HB := Aside0.mk (Below.refl w.heap.size w)
  have H : ((plain_Cut.f a0 a2).bind fun bt207 => (if bt207.2 < (bt207.1.size : Int) then (grommetlaw06_PlainAhead.j0 k a0 a1 a2 bt207.1 true) else (if bt207.2 > (a0.size : Int) then (grommetlaw06_PlainAhead.j0 k a0 a1 a2 bt207.1 true) else (if 0 ≤ (bt207.1.size : Int) then (if (bt207.1.size : Int) ≤ (a0.size : Int) then (grommetlaw06_PlainAhead.j0 k a0 a1 a2 bt207.1 ((a0.extract 0 ((bt207.1.size : Int) : Int).toNat).toList != bt207.1.toList)) else (none)) else (none))))) = some r := h
  clear h
  replace H := Option.bind_eq_some_iff.mp H
  obtain ⟨⟨t207, t208⟩, A40, H⟩ := H
  replace H : (if t208 < (t207.size : Int) then (grommetlaw06_PlainAhead.j0 k a0 a1 a2 t207 true) else (if t208 > (a0.size : Int) then (grommetlaw06_PlainAhead.j0 k a0 a1 a2 t207 true) else (if 0 ≤ (t207.size : Int) then (if (t207.size : Int) ≤ (a0.size : Int) then (grommetlaw06_PlainAhead.j0 k a0 a1 a2 t207 ((a0.extract 0 ((t207.size : Int) : Int).toNat).toList != t207.toList)) else (none)) else (none)))) = some r := H
  have A4 := Aside0.mk A40
  clear A40
  have HC5 := Aside0.mk H
  clear H
  go_enter Tryd.func7, Tryd.ntmps7
  go_upto_region 2 with (first | ((with_reducible refine gate_callee (f := 13) rfl ?_); refine goesL_ (some 16) rfl rfl Tryd.func13 (by kernel_rfl) rfl #[.string a0, .bool a2] rfl (by (try simp only [List.map_toArray, List.map_cons, List.map_nil]); first | done | rfl | (simp only [List.length_drop, List.length_take]; rfl)) ?_; (with_reducible refine (plain_Cut.calls a0 a2 t207 t208 _ (hG.below (by first | ((repeat (first | (with_reducible first | exact HB.out | apply below_alloc | apply pw_below_drewN | apply below_drew1 | (refine Glob.below_set ?_ (by assumption) _ _ _)) | exact HB.out)); done) | (refine Drawn0.below ?_; repeat (first | exact Drawn0.refl _ | assumption | apply Drawn0.step)))) A4.out).mono ?_); rintro e w6 ⟨rfl, hb⟩; refine ⟨_, rfl, ?_⟩; have n0_ := Aside0.mk (below_step (by repeat (first | (with_reducible first | exact HB.out | apply below_alloc | apply pw_below_drewN | apply below_drew1) | exact HB.out)) hb); clear HB; have HB := n0_; clear n0_; (try clear hb); (try clear hb2); (try clear hk); (try clear hi)))
  (try simp only [Act.put, List.setIfInBounds_toArray, List.set_cons_zero, List.set_cons_succ])
  go_cut [36] (fun v36 wc => ∃ (kq : Nat) (x36_4 : Bool), v36 = .bool x36_4 ∧ Aside0 (grommetlaw06_PlainAhead.j0 kq a0 a1 a2 t207 x36_4 = some r) ∧ Aside0 (kq ≤ k) ∧ Aside0 (Below w.heap.size w wc))
  case first =>
    have H := HC5.out
    clear HC5
    by_cases c7 : t208 < (t207.size : Int)
    · rw [if_pos c7] at H
      have c7b0 : decide (t208 < (t207.size : Int)) = true := decide_eq_true c7
      clear c7
      (first | rw [c7b0] | (simp only [i64_w, i32_w]; rw [c7b0]) | skip)
      have H' := Aside0.mk H
      clear H
      go_wp2
      go_meet
      case rel => exact ⟨_, (true), (by first | rfl | (simp; done) | (simp [*]; done)), H', ⟨by first | omega | exact Nat.le_refl _⟩, ⟨by repeat (first | (with_reducible first | exact HB.out | apply below_alloc | apply pw_below_drewN | apply below_drew1) | exact HB.out)⟩⟩
    · rw [if_neg c7] at H
      have c7b0 : decide (t208 < (t207.size : Int)) = false := decide_eq_false c7
      clear c7
      (first | rw [c7b0] | (simp only [i64_w, i32_w]; rw [c7b0]) | skip)
      by_cases c8 : t208 > (a0.size : Int)
      · rw [if_pos c8] at H
        have c8b0 : decide ((a0.size : Int) < t208) = true := decide_eq_true c8
        clear c8
        have H' := Aside0.mk H
        clear H
        go_wp2
        go_meet
        case rel => exact ⟨_, (true), (by first | rfl | (simp; done) | (simp [*]; done)), H', ⟨by first | omega | exact Nat.le_refl _⟩, ⟨by repeat (first | (with_reducible first | exact HB.out | apply below_alloc | apply pw_below_drewN | apply below_drew1) | exact HB.out)⟩⟩
      · rw [if_neg c8] at H
        have c8b0 : decide ((a0.size : Int) < t208) = false := decide_eq_false c8
        clear c8
        by_cases c9 : 0 ≤ (t207.size : Int)
        · rw [if_pos c9] at H
          have c9b0 := eq_true c9
          have c9b1 : decide (0 ≤ (t207.size : Int)) = true := decide_eq_true c9
          clear c9
          by_cases c10 : (t207.size : Int) ≤ (a0.size : Int)
          · rw [if_pos c10] at H
            have c10b0 := eq_true c10
            have c10b1 : decide ((t207.size : Int) ≤ (a0.size : Int)) = true := decide_eq_true c10
            clear c10
            have H' := Aside0.mk H
            clear H
            go_wp2
            go_meet
            case rel => exact ⟨_, (((a0.extract 0 ((t207.size : Int) : Int).toNat).toList != t207.toList)), (by first | rfl | (simp; done) | (simp [*]; done)), H', ⟨by first | omega | exact Nat.le_refl _⟩, ⟨by repeat (first | (with_reducible first | exact HB.out | apply below_alloc | apply pw_below_drewN | apply below_drew1) | exact HB.out)⟩⟩
          · rw [if_neg c10] at H
            exact absurd H (by simp)
        · rw [if_neg c9] at H
          exact absurd H (by simp)
  case rest =>
    clear HC5
    try clear c1
    try clear p2
    try clear c7
    try clear c7b0
    try clear c8
    try clear c8b0
    try clear c9
    try clear c9b0
    try clear c9b1
    try clear c10
    try clear c10b0
    try clear c10b1
    obtain ⟨kq, x36_4, rfl, HA, HJ4, HB⟩ := hcut
    cases kq with
    | zero => exact absurd HA.out (by simp [grommetlaw06_PlainAhead.j0])
    | succ kj4 =>
      have H := HA.out
      clear HA
      simp only [grommetlaw06_PlainAhead.j0] at H
      by_cases c11 : x36_4 = true
      · subst c11
        have H1 : (some false) = some r := by rw [if_pos rfl] at H; exact H
        clear H
        have H := H1
        clear H1
        obtain rfl := Option.some.inj H
        go_wp2
        go_ret
        exact ⟨by first | rfl | (simp [errW_none, errW_some] <;> rfl) | (simp [*, errW_none, errW_some] <;> rfl), by repeat (first | (with_reducible first | exact HB.out | apply below_alloc | apply pw_below_drewN | apply below_drew1) | exact HB.out)⟩
      · replace c11 := Bool.eq_false_iff.mpr c11
        subst c11
        have H1 : ((plain_Cut.f t207 a2).bind fun bt209 => (if bt209.1.toList = t207.toList then (grommetlaw06_PlainAhead.j1 kj4 a0 a1 a2 t207 bt209.2 (bt209.2 != (t207.size : Int))) else (grommetlaw06_PlainAhead.j1 kj4 a0 a1 a2 t207 bt209.2 true))) = some r := by rw [if_neg (show ¬ (false = true) by decide)] at H; exact H
        clear H
        have H := H1
        clear H1
        replace H := Option.bind_eq_some_iff.mp H
        obtain ⟨⟨t209, t210⟩, A120, H⟩ := H
        replace H : (if t209.toList = t207.toList then (grommetlaw06_PlainAhead.j1 kj4 a0 a1 a2 t207 t210 (t210 != (t207.size : Int))) else (grommetlaw06_PlainAhead.j1 kj4 a0 a1 a2 t207 t210 true)) = some r := H
        have A12 := Aside0.mk A120
        clear A120
        have HC13 := Aside0.mk H
        clear H
        go_upto_region 5 with (first | ((with_reducible refine gate_callee (f := 13) rfl ?_); refine goesL_ (some 40) rfl rfl Tryd.func13 (by kernel_rfl) rfl #[.string t207, .bool a2] rfl (by (try simp only [List.map_toArray, List.map_cons, List.map_nil]); first | done | rfl | (simp only [List.length_drop, List.length_take]; rfl)) ?_; (with_reducible refine (plain_Cut.calls t207 a2 t209 t210 _ (hG.below (by first | ((repeat (first | (with_reducible first | exact HB.out | apply below_alloc | apply pw_below_drewN | apply below_drew1 | (refine Glob.below_set ?_ (by assumption) _ _ _)) | exact HB.out)); done) | (refine Drawn0.below ?_; repeat (first | exact Drawn0.refl _ | assumption | apply Drawn0.step)))) A12.out).mono ?_); rintro e w14 ⟨rfl, hb⟩; refine ⟨_, rfl, ?_⟩; have n0_ := Aside0.mk (below_step (by repeat (first | (with_reducible first | exact HB.out | apply below_alloc | apply pw_below_drewN | apply below_drew1) | exact HB.out)) hb); clear HB; have HB := n0_; clear n0_; (try clear hb); (try clear hb2); (try clear hk); (try clear hi)))
        (try simp only [Act.put, List.setIfInBounds_toArray, List.set_cons_zero, List.set_cons_succ])
        go_cut [51] (fun v51 wc => ∃ (kq : Nat) (x51_12 : Bool), v51 = .bool x51_12 ∧ Aside0 (grommetlaw06_PlainAhead.j1 kq a0 a1 a2 t207 t210 x51_12 = some r) ∧ Aside0 (kq ≤ kj4) ∧ Aside0 (Below w.heap.size w wc))
        case first =>
          have H := HC13.out
          clear HC13
          by_cases c15 : t209.toList = t207.toList
          · rw [if_pos c15] at H
            have c15b0 : (t209.toList == t207.toList) = true := beq_iff_eq.mpr c15
            have c15b1 : (t209.toList != t207.toList) = false := bne_eq_false_iff_eq.mpr c15
            clear c15
            (first | rw [c15b0] | (simp only [i64_w, i32_w]; rw [c15b0]) | skip)
            have H' := Aside0.mk H
            clear H
            go_wp2
            go_meet
            case rel => exact ⟨_, ((t210 != (t207.size : Int))), (by first | rfl | (simp; done) | (simp [*]; done)), H', ⟨by have := HJ4.out; first | omega | exact Nat.le_refl _⟩, ⟨by repeat (first | (with_reducible first | exact HB.out | apply below_alloc | apply pw_below_drewN | apply below_drew1) | exact HB.out)⟩⟩
          · rw [if_neg c15] at H
            have c15b0 : (t209.toList == t207.toList) = false := beq_eq_false_iff_ne.mpr c15
            have c15b1 : (t209.toList != t207.toList) = true := bne_iff_ne.mpr c15
            (first | rw [c15b0] | (simp only [i64_w, i32_w]; rw [c15b0]) | skip)
            have H' := Aside0.mk H
            clear H
            go_wp2
            go_meet
            case rel => exact ⟨_, (true), (by first | rfl | (simp; done) | (simp [*]; done)), H', ⟨by have := HJ4.out; first | omega | exact Nat.le_refl _⟩, ⟨by repeat (first | (with_reducible first | exact HB.out | apply below_alloc | apply pw_below_drewN | apply below_drew1) | exact HB.out)⟩⟩
        case rest =>
          clear HC13
          try clear c1
          try clear p2
          try clear c7
          try clear c7b0
          try clear c8
          try clear c8b0
          try clear c9
          try clear c9b0
          try clear c9b1
          try clear c10
          try clear c10b0
          try clear c10b1
          try clear c11
          try clear c13
          try clear c15
          try clear c15b0
          try clear c15b1
          try clear p2
          obtain ⟨kq, x51_12, rfl, HA, HJ12, HB⟩ := hcut
          cases kq with
          | zero => exact absurd HA.out (by simp [grommetlaw06_PlainAhead.j1])
          | succ kj12 =>
            have H := HA.out
            clear HA
            simp only [grommetlaw06_PlainAhead.j1] at H
            have HC16 := Aside0.mk H
            clear H
            go_upto_if 51 with (fail)
            go_cut [] (fun wc => ∃ (kq : Nat), Aside0 (grommetlaw06_PlainAhead.j2 kq a0 a1 a2 = some r) ∧ Aside0 (kq ≤ kj12) ∧ Aside0 (Below w.heap.size w wc))
            case first =>
              have H := HC16.out
              clear HC16
              by_cases c17 : x51_12 = true
              · subst c17
                have H1 : (if t210 = (wrap64 ((t207.size : Int) - 1)) then (if 0 ≤ (wrap64 ((t207.size : Int) - 1)) then (if (wrap64 ((t207.size : Int) - 1)) < (t207.size : Int) then (if (bt t207 (wrap64 ((t207.size : Int) - 1))) = 58 then (grommetlaw06_PlainAhead.j2 kj12 a0 a1 a2) else (some false)) else (none)) else (none)) else (some false)) = some r := by rw [if_pos rfl] at H; exact H
                clear H
                have H := H1
                clear H1
                by_cases c18 : t210 = (wrap64 ((t207.size : Int) - 1))
                · rw [if_pos c18] at H
                  have c18b0 : (t210 == (wrap64 ((t207.size : Int) - 1))) = true := beq_iff_eq.mpr c18
                  have c18b1 : (t210 != (wrap64 ((t207.size : Int) - 1))) = false := bne_eq_false_iff_eq.mpr c18
                  clear c18
                  (first | rw [c18b0] | (simp only [i64_w, i32_w]; rw [c18b0]) | skip)
                  obtain ⟨ji19, hji19⟩ : ∃ j_ : Int, (wrap64 ((t207.size : Int) - 1)) = j_ := ⟨_, rfl⟩
                  replace H : (if 0 ≤ (ji19) then (if (ji19) < (t207.size : Int) then (if (bt t207 (ji19)) = 58 then (grommetlaw06_PlainAhead.j2 kj12 a0 a1 a2) else (some false)) else (none)) else (none)) = some r := by first | (rw [hji19] at H; exact H) | (simp only [hji19] at H ⊢; exact H)
                  (try rw [hji19] at c18b0)
                  (try rw [hji19] at c18b1)
                  have hji19w : (IntKind.i64.wrap ((t207.size : Int) - 1)) = ji19 := (i64_w _).trans hji19
                  by_cases c20 : 0 ≤ (ji19)
                  · rw [if_pos c20] at H
                    have c20b0 : decide (0 ≤ (ji19)) = true := decide_eq_true c20
                    clear c20
                    by_cases c21 : (ji19) < (t207.size : Int)
                    · rw [if_pos c21] at H
                      have c21b0 : decide ((ji19) < (t207.size : Int)) = true := decide_eq_true c21
                      clear c21
                      by_cases c23 : (bt t207 (ji19)) = 58
                      · rw [if_pos c23] at H
                        have c23b0 : ((bt t207 (ji19)) == 58) = true := beq_iff_eq.mpr c23
                        have c23b1 : ((bt t207 (ji19)) != 58) = false := bne_eq_false_iff_eq.mpr c23
                        clear c23
                        have H' := Aside0.mk H
                        clear H
                        have p22 : 0 ≤ ((ji19) : Int) := of_decide_eq_true (by first | (with_reducible assumption) | assumption)
                        have q22 : (ji19) < (t207.size : Int) := of_decide_eq_true (by first | (with_reducible assumption) | assumption)
                        have hx22 := bt_at t207 (ji19)
                        replace p22 := eq_true p22
                        replace q22 := eq_true q22
                        go_wp2
                        go_meet
                        case rel => exact ⟨_, H', ⟨by have := HJ4.out; have := HJ12.out; first | omega | exact Nat.le_refl _⟩, ⟨by repeat (first | (with_reducible first | exact HB.out | apply below_alloc | apply pw_below_drewN | apply below_drew1) | exact HB.out)⟩⟩
                      · rw [if_neg c23] at H
                        have c23b0 : ((bt t207 (ji19)) == 58) = false := beq_eq_false_iff_ne.mpr c23
                        have c23b1 : ((bt t207 (ji19)) != 58) = true := bne_iff_ne.mpr c23
                        obtain rfl := Option.some.inj H
                        have p22 : 0 ≤ ((ji19) : Int) := of_decide_eq_true (by first | (with_reducible assumption) | assumption)
                        have q22 : (ji19) < (t207.size : Int) := of_decide_eq_true (by first | (with_reducible assumption) | assumption)
                        have hx22 := bt_at t207 (ji19)
                        replace p22 := eq_true p22
                        replace q22 := eq_true q22
                        go_wp2
                        go_ret
                        exact ⟨by first | rfl | (simp [errW_none, errW_some] <;> rfl) | (simp only [← hji19]; first | rfl | (simp [errW_none, errW_some] <;> rfl)) | (simp [*, errW_none, errW_some] <;> rfl), by repeat (first | (with_reducible first | exact HB.out | apply below_alloc | apply pw_below_drewN | apply below_drew1) | exact HB.out)⟩
                    · rw [if_neg c21] at H
                      exact absurd H (by simp)
                  · rw [if_neg c20] at H
                    exact absurd H (by simp)
                · rw [if_neg c18] at H
                  have c18b0 : (t210 == (wrap64 ((t207.size : Int) - 1))) = false := beq_eq_false_iff_ne.mpr c18
                  have c18b1 : (t210 != (wrap64 ((t207.size : Int) - 1))) = true := bne_iff_ne.mpr c18
                  (first | rw [c18b0] | (simp only [i64_w, i32_w]; rw [c18b0]) | skip)
                  obtain rfl := Option.some.inj H
                  go_wp2
                  go_ret
                  exact ⟨by first | rfl | (simp [errW_none, errW_some] <;> rfl) | (simp [*, errW_none, errW_some] <;> rfl), by repeat (first | (with_reducible first | exact HB.out | apply below_alloc | apply pw_below_drewN | apply below_drew1) | exact HB.out)⟩
              · replace c17 := Bool.eq_false_iff.mpr c17
                subst c17
                have H1 : (grommetlaw06_PlainAhead.j2 kj12 a0 a1 a2) = some r := by rw [if_neg (show ¬ (false = true) by decide)] at H; exact H
                clear H
                have H := H1
                clear H1
                have H' := Aside0.mk H
                clear H
                go_wp2
                go_meet
                case rel => exact ⟨_, H', ⟨by have := HJ4.out; have := HJ12.out; first | omega | exact Nat.le_refl _⟩, ⟨by repeat (first | (with_reducible first | exact HB.out | apply below_alloc | apply pw_below_drewN | apply below_drew1) | exact HB.out)⟩⟩
            case rest =>
              clear HC16
              try clear c1
              try clear c2
              try clear p2
              try clear q2
              try clear hx2
              try clear p6
              try clear c7
              try clear c7b0
              try clear c8
              try clear c8b0
              try clear c9
              try clear c9b0
              try clear c9b1
              try clear c10
              try clear c10b0
              try clear c10b1
              try clear c11
              try clear c13
              try clear c15
              try clear c15b0
              try clear c15b1
              try clear c17
              try clear c18
              try clear c18b0
              try clear c18b1
              try clear c20
              try clear c20b0
              try clear c21
              try clear c21b0
              try clear p22
              try clear q22
              try clear hx22
              try clear c23
              try clear c23b0
              try clear c23b1
              try clear p2
              try clear p22
              try clear q22
              obtain ⟨kq, HA, HJ15, HB⟩ := hcut
              cases kq with
              | zero => exact absurd HA.out (by simp [grommetlaw06_PlainAhead.j2])
              | succ kj15 =>
                have H := HA.out
                clear HA
                simp only [grommetlaw06_PlainAhead.j2] at H
                replace H := Option.bind_eq_some_iff.mp H
                obtain ⟨t211, A240, H⟩ := H
                replace H : (if t211 = true then (if a1.size + 2 ≤ 9223372036854775807 then (if (a1 ++ (⟨#[58, 32]⟩ : ByteArray)).size + a0.size ≤ 9223372036854775807 then ((plain_Cut.f ((a1 ++ (⟨#[58, 32]⟩ : ByteArray)) ++ a0) a2).bind fun bt212 => (if bt212.1.toList = a1.toList then (if bt212.2 = (a1.size : Int) then ((grommetlaw06_alive.f kj15).bind fun t214 => (some t214)) else (some false)) else (some false))) else (none)) else (none)) else ((grommetlaw06_alive.f kj15).bind fun t215 => (some t215))) = some r := H
                have A24 := Aside0.mk A240
                clear A240
                by_cases c25 : t211 = true
                · subst c25
                  have H1 : (if a1.size + 2 ≤ 9223372036854775807 then (if (a1 ++ (⟨#[58, 32]⟩ : ByteArray)).size + a0.size ≤ 9223372036854775807 then ((plain_Cut.f ((a1 ++ (⟨#[58, 32]⟩ : ByteArray)) ++ a0) a2).bind fun bt212 => (if bt212.1.toList = a1.toList then (if bt212.2 = (a1.size : Int) then ((grommetlaw06_alive.f kj15).bind fun t214 => (some t214)) else (some false)) else (some false))) else (none)) else (none)) = some r := by rw [if_pos rfl] at H; exact H
                  clear H
                  have H := H1
                  clear H1
                  by_cases c26 : a1.size + 2 ≤ 9223372036854775807
                  · rw [if_pos c26] at H
                    have c26b0 := eq_true c26
                    have c26b1 : decide (a1.size + 2 ≤ 9223372036854775807) = true := decide_eq_true c26
                    try have c26b2 : (9223372036854775807 < a1.size + 2) = False := eq_false (Nat.not_lt.2 c26)
                    by_cases c27 : (a1 ++ (⟨#[58, 32]⟩ : ByteArray)).size + a0.size ≤ 9223372036854775807
                    · rw [if_pos c27] at H
                      have c27b0 := eq_true c27
                      have c27b1 : decide ((a1 ++ (⟨#[58, 32]⟩ : ByteArray)).size + a0.size ≤ 9223372036854775807) = true := decide_eq_true c27
                      try have c27b2 : (9223372036854775807 < (a1 ++ (⟨#[58, 32]⟩ : ByteArray)).size + a0.size) = False := eq_false (Nat.not_lt.2 c27)
                      replace H := Option.bind_eq_some_iff.mp H
                      obtain ⟨⟨t212, t213⟩, A280, H⟩ := H
                      replace H : (if t212.toList = a1.toList then (if t213 = (a1.size : Int) then ((grommetlaw06_alive.f kj15).bind fun t214 => (some t214)) else (some false)) else (some false)) = some r := H
                      have A28 := Aside0.mk A280
                      clear A280
                      by_cases c29 : t212.toList = a1.toList
                      · rw [if_pos c29] at H
                        have c29b0 : (t212.toList == a1.toList) = true := beq_iff_eq.mpr c29
                        have c29b1 : (t212.toList != a1.toList) = false := bne_eq_false_iff_eq.mpr c29
                        clear c29
                        by_cases c30 : t213 = (a1.size : Int)
                        · rw [if_pos c30] at H
                          have c30b0 : (t213 == (a1.size : Int)) = true := beq_iff_eq.mpr c30
                          have c30b1 : (t213 != (a1.size : Int)) = false := bne_eq_false_iff_eq.mpr c30
                          clear c30
                          replace H := Option.bind_eq_some_iff.mp H
                          obtain ⟨t214, A310, H⟩ := H
                          replace H : (some t214) = some r := H
                          have A31 := Aside0.mk A310
                          clear A310
                          obtain rfl := Option.some.inj H
                          go_wp2_with (first | ((with_reducible refine gate_callee (f := 10) rfl ?_); refine goesL_ (some 67) rfl rfl Tryd.func10 (by kernel_rfl) rfl #[.string a1, .bool a2] rfl (by (try simp only [List.map_toArray, List.map_cons, List.map_nil]); first | done | rfl | (simp only [List.length_drop, List.length_take]; rfl)) ?_; (with_reducible refine (plain_Is.calls kj15 a1 a2 true _ (hG.below (by first | ((repeat (first | (with_reducible first | exact HB.out | apply below_alloc | apply pw_below_drewN | apply below_drew1 | (refine Glob.below_set ?_ (by assumption) _ _ _)) | exact HB.out)); done) | (refine Drawn0.below ?_; repeat (first | exact Drawn0.refl _ | assumption | apply Drawn0.step)))) A24.out).mono ?_); rintro e w32 ⟨rfl, hb⟩; refine ⟨_, rfl, ?_⟩; have n0_ := Aside0.mk (below_step (by repeat (first | (with_reducible first | exact HB.out | apply below_alloc | apply pw_below_drewN | apply below_drew1) | exact HB.out)) hb); clear HB; have HB := n0_; clear n0_; (try clear hb); (try clear hb2); (try clear hk); (try clear hi)) | ((with_reducible refine gate_callee (f := 13) rfl ?_); refine goesL_ (some 74) rfl rfl Tryd.func13 (by kernel_rfl) rfl #[.string ((a1 ++ (⟨#[58, 32]⟩ : ByteArray)) ++ a0), .bool a2] rfl (by (try simp only [List.map_toArray, List.map_cons, List.map_nil]); first | done | rfl | (simp only [List.length_drop, List.length_take]; rfl)) ?_; (with_reducible refine (plain_Cut.calls ((a1 ++ (⟨#[58, 32]⟩ : ByteArray)) ++ a0) a2 t212 t213 _ (hG.below (by first | ((repeat (first | (with_reducible first | exact HB.out | apply below_alloc | apply pw_below_drewN | apply below_drew1 | (refine Glob.below_set ?_ (by assumption) _ _ _)) | exact HB.out)); done) | (refine Drawn0.below ?_; repeat (first | exact Drawn0.refl _ | assumption | apply Drawn0.step)))) A28.out).mono ?_); rintro e w33 ⟨rfl, hb⟩; refine ⟨_, rfl, ?_⟩; have n0_ := Aside0.mk (below_step (by repeat (first | (with_reducible first | exact HB.out | apply below_alloc | apply pw_below_drewN | apply below_drew1) | exact HB.out)) hb); clear HB; have HB := n0_; clear n0_; (try clear hb); (try clear hb2); (try clear hk); (try clear hi)) | ((with_reducible refine gate_callee (f := 12) rfl ?_); refine goesL_ (some 86) rfl rfl Tryd.func12 (by kernel_rfl) rfl #[] rfl (by (try simp only [List.map_toArray, List.map_cons, List.map_nil]); first | done | rfl | (simp only [List.length_drop, List.length_take]; rfl)) ?_; (with_reducible refine (grommetlaw06_alive.calls kj15  t214 _ (hG.below (by first | ((repeat (first | (with_reducible first | exact HB.out | apply below_alloc | apply pw_below_drewN | apply below_drew1 | (refine Glob.below_set ?_ (by assumption) _ _ _)) | exact HB.out)); done) | (refine Drawn0.below ?_; repeat (first | exact Drawn0.refl _ | assumption | apply Drawn0.step)))) A31.out).mono ?_); rintro e w34 ⟨rfl, hb⟩; refine ⟨_, rfl, ?_⟩; have n0_ := Aside0.mk (below_step (by repeat (first | (with_reducible first | exact HB.out | apply below_alloc | apply pw_below_drewN | apply below_drew1) | exact HB.out)) hb); clear HB; have HB := n0_; clear n0_; (try clear hb); (try clear hb2); (try clear hk); (try clear hi)))
                          go_ret
                          exact ⟨by first | rfl | (simp [errW_none, errW_some] <;> rfl) | (simp [*, errW_none, errW_some] <;> rfl), by repeat (first | (with_reducible first | exact HB.out | apply below_alloc | apply pw_below_drewN | apply below_drew1) | exact HB.out)⟩
                        · rw [if_neg c30] at H
                          have c30b0 : (t213 == (a1.size : Int)) = false := beq_eq_false_iff_ne.mpr c30
                          have c30b1 : (t213 != (a1.size : Int)) = true := bne_iff_ne.mpr c30
                          obtain rfl := Option.some.inj H
                          go_wp2_with (first | ((with_reducible refine gate_callee (f := 10) rfl ?_); refine goesL_ (some 67) rfl rfl Tryd.func10 (by kernel_rfl) rfl #[.string a1, .bool a2] rfl (by (try simp only [List.map_toArray, List.map_cons, List.map_nil]); first | done | rfl | (simp only [List.length_drop, List.length_take]; rfl)) ?_; (with_reducible refine (plain_Is.calls kj15 a1 a2 true _ (hG.below (by first | ((repeat (first | (with_reducible first | exact HB.out | apply below_alloc | apply pw_below_drewN | apply below_drew1 | (refine Glob.below_set ?_ (by assumption) _ _ _)) | exact HB.out)); done) | (refine Drawn0.below ?_; repeat (first | exact Drawn0.refl _ | assumption | apply Drawn0.step)))) A24.out).mono ?_); rintro e w35 ⟨rfl, hb⟩; refine ⟨_, rfl, ?_⟩; have n0_ := Aside0.mk (below_step (by repeat (first | (with_reducible first | exact HB.out | apply below_alloc | apply pw_below_drewN | apply below_drew1) | exact HB.out)) hb); clear HB; have HB := n0_; clear n0_; (try clear hb); (try clear hb2); (try clear hk); (try clear hi)) | ((with_reducible refine gate_callee (f := 13) rfl ?_); refine goesL_ (some 74) rfl rfl Tryd.func13 (by kernel_rfl) rfl #[.string ((a1 ++ (⟨#[58, 32]⟩ : ByteArray)) ++ a0), .bool a2] rfl (by (try simp only [List.map_toArray, List.map_cons, List.map_nil]); first | done | rfl | (simp only [List.length_drop, List.length_take]; rfl)) ?_; (with_reducible refine (plain_Cut.calls ((a1 ++ (⟨#[58, 32]⟩ : ByteArray)) ++ a0) a2 t212 t213 _ (hG.below (by first | ((repeat (first | (with_reducible first | exact HB.out | apply below_alloc | apply pw_below_drewN | apply below_drew1 | (refine Glob.below_set ?_ (by assumption) _ _ _)) | exact HB.out)); done) | (refine Drawn0.below ?_; repeat (first | exact Drawn0.refl _ | assumption | apply Drawn0.step)))) A28.out).mono ?_); rintro e w36 ⟨rfl, hb⟩; refine ⟨_, rfl, ?_⟩; have n0_ := Aside0.mk (below_step (by repeat (first | (with_reducible first | exact HB.out | apply below_alloc | apply pw_below_drewN | apply below_drew1) | exact HB.out)) hb); clear HB; have HB := n0_; clear n0_; (try clear hb); (try clear hb2); (try clear hk); (try clear hi)))
                          go_ret
                          exact ⟨by first | rfl | (simp [errW_none, errW_some] <;> rfl) | (simp [*, errW_none, errW_some] <;> rfl), by repeat (first | (with_reducible first | exact HB.out | apply below_alloc | apply pw_below_drewN | apply below_drew1) | exact HB.out)⟩
                      · rw [if_neg c29] at H
                        have c29b0 : (t212.toList == a1.toList) = false := beq_eq_false_iff_ne.mpr c29
                        have c29b1 : (t212.toList != a1.toList) = true := bne_iff_ne.mpr c29
                        obtain rfl := Option.some.inj H
                        go_wp2_with (first | ((with_reducible refine gate_callee (f := 10) rfl ?_); refine goesL_ (some 67) rfl rfl Tryd.func10 (by kernel_rfl) rfl #[.string a1, .bool a2] rfl (by (try simp only [List.map_toArray, List.map_cons, List.map_nil]); first | done | rfl | (simp only [List.length_drop, List.length_take]; rfl)) ?_; (with_reducible refine (plain_Is.calls kj15 a1 a2 true _ (hG.below (by first | ((repeat (first | (with_reducible first | exact HB.out | apply below_alloc | apply pw_below_drewN | apply below_drew1 | (refine Glob.below_set ?_ (by assumption) _ _ _)) | exact HB.out)); done) | (refine Drawn0.below ?_; repeat (first | exact Drawn0.refl _ | assumption | apply Drawn0.step)))) A24.out).mono ?_); rintro e w37 ⟨rfl, hb⟩; refine ⟨_, rfl, ?_⟩; have n0_ := Aside0.mk (below_step (by repeat (first | (with_reducible first | exact HB.out | apply below_alloc | apply pw_below_drewN | apply below_drew1) | exact HB.out)) hb); clear HB; have HB := n0_; clear n0_; (try clear hb); (try clear hb2); (try clear hk); (try clear hi)) | ((with_reducible refine gate_callee (f := 13) rfl ?_); refine goesL_ (some 74) rfl rfl Tryd.func13 (by kernel_rfl) rfl #[.string ((a1 ++ (⟨#[58, 32]⟩ : ByteArray)) ++ a0), .bool a2] rfl (by (try simp only [List.map_toArray, List.map_cons, List.map_nil]); first | done | rfl | (simp only [List.length_drop, List.length_take]; rfl)) ?_; (with_reducible refine (plain_Cut.calls ((a1 ++ (⟨#[58, 32]⟩ : ByteArray)) ++ a0) a2 t212 t213 _ (hG.below (by first | ((repeat (first | (with_reducible first | exact HB.out | apply below_alloc | apply pw_below_drewN | apply below_drew1 | (refine Glob.below_set ?_ (by assumption) _ _ _)) | exact HB.out)); done) | (refine Drawn0.below ?_; repeat (first | exact Drawn0.refl _ | assumption | apply Drawn0.step)))) A28.out).mono ?_); rintro e w38 ⟨rfl, hb⟩; refine ⟨_, rfl, ?_⟩; have n0_ := Aside0.mk (below_step (by repeat (first | (with_reducible first | exact HB.out | apply below_alloc | apply pw_below_drewN | apply below_drew1) | exact HB.out)) hb); clear HB; have HB := n0_; clear n0_; (try clear hb); (try clear hb2); (try clear hk); (try clear hi)))
                        go_ret
                        exact ⟨by first | rfl | (simp [errW_none, errW_some] <;> rfl) | (simp [*, errW_none, errW_some] <;> rfl), by repeat (first | (with_reducible first | exact HB.out | apply below_alloc | apply pw_below_drewN | apply below_drew1) | exact HB.out)⟩
                    · rw [if_neg c27] at H
                      exact absurd H (by simp)
                  · rw [if_neg c26] at H
                    exact absurd H (by simp)
                · replace c25 := Bool.eq_false_iff.mpr c25
                  subst c25
                  have H1 : ((grommetlaw06_alive.f kj15).bind fun t215 => (some t215)) = some r := by rw [if_neg (show ¬ (false = true) by decide)] at H; exact H
                  clear H
                  have H := H1
                  clear H1
                  replace H := Option.bind_eq_some_iff.mp H
                  obtain ⟨t215, A390, H⟩ := H
                  replace H : (some t215) = some r := H
                  have A39 := Aside0.mk A390
                  clear A390
                  obtain rfl := Option.some.inj H
                  go_wp2_with (first | ((with_reducible refine gate_callee (f := 10) rfl ?_); refine goesL_ (some 67) rfl rfl Tryd.func10 (by kernel_rfl) rfl #[.string a1, .bool a2] rfl (by (try simp only [List.map_toArray, List.map_cons, List.map_nil]); first | done | rfl | (simp only [List.length_drop, List.length_take]; rfl)) ?_; (with_reducible refine (plain_Is.calls kj15 a1 a2 false _ (hG.below (by first | ((repeat (first | (with_reducible first | exact HB.out | apply below_alloc | apply pw_below_drewN | apply below_drew1 | (refine Glob.below_set ?_ (by assumption) _ _ _)) | exact HB.out)); done) | (refine Drawn0.below ?_; repeat (first | exact Drawn0.refl _ | assumption | apply Drawn0.step)))) A24.out).mono ?_); rintro e w40 ⟨rfl, hb⟩; refine ⟨_, rfl, ?_⟩; have n0_ := Aside0.mk (below_step (by repeat (first | (with_reducible first | exact HB.out | apply below_alloc | apply pw_below_drewN | apply below_drew1) | exact HB.out)) hb); clear HB; have HB := n0_; clear n0_; (try clear hb); (try clear hb2); (try clear hk); (try clear hi)) | ((with_reducible refine gate_callee (f := 12) rfl ?_); refine goesL_ (some 86) rfl rfl Tryd.func12 (by kernel_rfl) rfl #[] rfl (by (try simp only [List.map_toArray, List.map_cons, List.map_nil]); first | done | rfl | (simp only [List.length_drop, List.length_take]; rfl)) ?_; (with_reducible refine (grommetlaw06_alive.calls kj15  t215 _ (hG.below (by first | ((repeat (first | (with_reducible first | exact HB.out | apply below_alloc | apply pw_below_drewN | apply below_drew1 | (refine Glob.below_set ?_ (by assumption) _ _ _)) | exact HB.out)); done) | (refine Drawn0.below ?_; repeat (first | exact Drawn0.refl _ | assumption | apply Drawn0.step)))) A39.out).mono ?_); rintro e w41 ⟨rfl, hb⟩; refine ⟨_, rfl, ?_⟩; have n0_ := Aside0.mk (below_step (by repeat (first | (with_reducible first | exact HB.out | apply below_alloc | apply pw_below_drewN | apply below_drew1) | exact HB.out)) hb); clear HB; have HB := n0_; clear n0_; (try clear hb); (try clear hb2); (try clear hk); (try clear hi)))
                  go_ret
                  exact ⟨by first | rfl | (simp [errW_none, errW_some] <;> rfl) | (simp [*, errW_none, errW_some] <;> rfl), by repeat (first | (with_reducible first | exact HB.out | apply below_alloc | apply pw_below_drewN | apply below_drew1) | exact HB.out)⟩

end Go.Proofs.YtephdpgkildeoaaDoor.PX

/- PlainAhead's pure statement: for every two texts of up to 1048576 bytes the law's Lean function answers true. -/
namespace Go.Proofs.YtephdpgkildeoaaDoor.Pure
open Go.RowKit Go.Proofs.YtephdpgkildeoaaDoor.PX Go.Proofs.YtephdpgkildeoaaDoor.Plain Go.Proofs.YtephdpgkildeoaaDoor.Utf Go.Proofs.YtephdpgkildeoaaDoor.Plug Go.Proofs.YtephdpgkildeoaaDoorW.PrintWords Go.Proofs.YtephdpgkildeoaaDoorW.PrintLast

theorem ends_same (l m : List UInt8) (flow : Bool) (j : Nat) (h0 : at_ l j = at_ m j) (hp : at_ l (j - 1) = at_ m (j - 1)) (hn : at_ l (j + 1) = at_ m (j + 1)) (he : (j + 1 == l.length) = (j + 1 == m.length)) :
    endsAt l flow j = endsAt m flow j := by unfold endsAt; rw [h0, hp, hn, he]
theorem ends_same2 (l m : List UInt8) (flow : Bool) (j : Nat) (h0 : at_ l j = at_ m j) (hp : at_ l (j - 1) = at_ m (j - 1)) (hc : at_ l j ≠ 58) : endsAt l flow j = endsAt m flow j := by
  have e : (at_ m j == 58) = false := by rw [← h0]; exact beq_eq_false_iff_ne.2 hc
  unfold endsAt; rw [h0, hp, e]; simp

theorem endF_at (l : List UInt8) (flow : Bool) (n : Nat) (hn : n ≤ l.length) (hb : ∀ j, j < n → endsAt l flow j = false) (he : n < l.length → endsAt l flow n = true) :
    ∀ k i, i ≤ n → l.length ≤ i + k → endF k l flow i = n
  | 0, i, hi, hk => by unfold endF; omega
  | k + 1, i, hi, hk => by
    unfold endF
    by_cases q : i = n
    · subst q
      by_cases z : i < l.length
      · rw [if_pos z, if_pos (he z)]
      · rw [if_neg z]
    · rw [if_pos (by omega), hb i (by omega), if_neg (by decide)]
      exact endF_at l flow n hn hb he k (i + 1) (by omega) (by omega)
theorem endOf_at (l : List UInt8) (flow : Bool) (n : Nat) (hn : n ≤ l.length) (hb : ∀ j, j < n → endsAt l flow j = false) (he : n < l.length → endsAt l flow n = true) : endOf l flow = n :=
  endF_at l flow n hn hb he l.length 0 (Nat.zero_le _) (by omega)

theorem endF_before (l : List UInt8) (flow : Bool) : ∀ k i j, i ≤ j → j < endF k l flow i → endsAt l flow j = false
  | 0, i, j, hi, hj => by unfold endF at hj; omega
  | k + 1, i, j, hi, hj => by
    unfold endF at hj
    by_cases q : i < l.length
    · rw [if_pos q] at hj
      by_cases z : endsAt l flow i = true
      · rw [if_pos z] at hj; omega
      · rw [if_neg z] at hj
        by_cases y : j = i
        · subst y; simpa using z
        · exact endF_before l flow k (i + 1) j (by omega) hj
    · rw [if_neg q] at hj; omega
theorem endOf_before (l : List UInt8) (flow : Bool) (j : Nat) (hj : j < endOf l flow) : endsAt l flow j = false := endF_before l flow _ 0 j (Nat.zero_le _) hj

theorem at_take (l : List UInt8) (n j : Nat) (h : j < n) : at_ (l.take n) j = at_ l j := by
  unfold at_
  rw [List.getD_eq_getElem?_getD, List.getD_eq_getElem?_getD, List.getElem?_take, if_pos h]
theorem at_left (l m : List UInt8) (j : Nat) (h : j < l.length) : at_ (l ++ m) j = at_ l j := by
  unfold at_
  rw [List.getD_eq_getElem?_getD, List.getD_eq_getElem?_getD, List.getElem?_append_left h]
theorem at_right (l m : List UInt8) (j : Nat) : at_ (l ++ m) (l.length + j) = at_ m j := by
  unfold at_
  rw [List.getD_eq_getElem?_getD, List.getD_eq_getElem?_getD, List.getElem?_append_right (by omega), Nat.add_sub_cancel_left]

/-- What is cut of what is cut: all of it, or all but a colon at its end. -/
theorem cut_again (l : List UInt8) (flow : Bool) (c : Nat) (hc : c = trimR l (endOf l flow)) :
    (endOf (l.take c) flow = c ∧ trimR (l.take c) c = c) ∨ (0 < c ∧ endOf (l.take c) flow = c - 1 ∧ at_ (l.take c) (c - 1) = 58) := by
  have he := endOf_le l flow
  have hle : c ≤ endOf l flow := by rw [hc]; exact trimR_le l _
  have hlen : (l.take c).length = c := by rw [List.length_take]; omega
  have hb : ∀ j, j + 1 < c → endsAt (l.take c) flow j = false := fun j hj => by
    rw [ends_same (l.take c) l flow j (at_take _ _ _ (by omega)) (at_take _ _ _ (by omega)) (at_take _ _ _ hj) (by rw [hlen]; rw [Bool.eq_iff_iff]; simp; omega)]
    exact endOf_before l flow j (by omega)
  by_cases h0 : c = 0
  · refine .inl ⟨?_, ?_⟩
    · refine endOf_at _ _ c (by omega) (fun j hj => by omega) (fun q => by omega)
    · subst h0; rfl
  · have hlast : at_ (l.take c) (c - 1) = at_ l (c - 1) := at_take _ _ _ (by omega)
    by_cases hk : at_ l (c - 1) = 58
    · refine .inr ⟨by omega, ?_, by rw [hlast]; exact hk⟩
      refine endOf_at _ _ (c - 1) (by omega) (fun j hj => hb j (by omega)) (fun _ => ?_)
      unfold endsAt
      rw [hlast, hk, hlen, show c - 1 + 1 = c by omega]
      simp
    · refine .inl ⟨?_, ?_⟩
      · refine endOf_at _ _ c (by omega) (fun j hj => ?_) (fun q => by omega)
        by_cases q : j + 1 < c
        · exact hb j q
        · obtain rfl : j = c - 1 := by omega
          rw [ends_same2 (l.take c) l flow (c - 1) hlast (at_take _ _ _ (by omega)) (by rw [hlast]; exact hk)]
          exact endOf_before l flow (c - 1) (by omega)
      · refine trimR_whole _ _ (by omega) ?_
        rw [hlast, hc]
        exact trimR_last l _ (by omega)

/-- Ahead of a colon and a blank a plain text is cut as a whole. -/
theorem cut_ahead (t s : List UInt8) (flow : Bool) (h : isB t flow = true) : endOf (t ++ [58, 32] ++ s) flow = t.length ∧ trimR (t ++ [58, 32] ++ s) t.length = t.length := by
  obtain ⟨h1, h2, h3⟩ := isB_parts h
  have hl := List.length_pos_iff.2 h1
  have he : ∀ j, j < t.length → endsAt t flow j = false := (endOf_iff t flow).1 h3
  have hat : ∀ j, j < t.length → at_ (t ++ [58, 32] ++ s) j = at_ t j := fun j hj => by rw [List.append_assoc]; exact at_left _ _ _ hj
  have hc : at_ (t ++ [58, 32] ++ s) t.length = 58 := by rw [List.append_assoc]; exact at_right t _ 0
  have hd : at_ (t ++ [58, 32] ++ s) (t.length + 1) = 32 := by rw [List.append_assoc]; exact at_right t _ 1
  have hlen : (t ++ [58, 32] ++ s).length = t.length + 2 + s.length := by simp; omega
  refine ⟨endOf_at _ _ _ (by omega) (fun j hj => ?_) (fun _ => ?_), trimR_whole _ _ hl (by rw [hat _ (by omega)]; exact h2)⟩
  · by_cases q : j + 1 < t.length
    · rw [ends_same _ t flow j (hat j hj) (hat _ (by omega)) (hat _ q) (by rw [hlen]; rw [Bool.eq_iff_iff]; simp; omega)]
      exact he j hj
    · have ha := he j hj
      have hne : at_ t j ≠ 58 := fun e => by
        unfold endsAt at ha
        rw [e, show (j + 1 == t.length) = true by simp; omega] at ha
        simp at ha
      rw [ends_same2 _ t flow j (hat j hj) (hat _ (by omega)) (by rw [hat j hj]; exact hne)]
      exact ha
  · unfold endsAt
    rw [hc, hd]
    simp

theorem ahead_j0 (k : Nat) (x0 x1 : ByteArray) (x2 : Bool) (x7 : ByteArray) : grommetlaw06_PlainAhead.j0 (k + 1) x0 x1 x2 x7 false = ((plain_Cut.f x7 x2).bind fun bt209 => (if bt209.1.toList = x7.toList then (grommetlaw06_PlainAhead.j1 k x0 x1 x2 x7 bt209.2 (bt209.2 != (x7.size : Int))) else (grommetlaw06_PlainAhead.j1 k x0 x1 x2 x7 bt209.2 true))) := by
  rw [grommetlaw06_PlainAhead.j0, if_neg (by decide)]
theorem ahead_j1f (k : Nat) (x0 x1 : ByteArray) (x2 : Bool) (x7 : ByteArray) (n : Int) : grommetlaw06_PlainAhead.j1 (k + 1) x0 x1 x2 x7 n false = grommetlaw06_PlainAhead.j2 k x0 x1 x2 := by
  rw [grommetlaw06_PlainAhead.j1, if_neg (by decide)]
theorem ahead_j1t (k : Nat) (x0 x1 : ByteArray) (x2 : Bool) (x7 : ByteArray) (n : Int) : grommetlaw06_PlainAhead.j1 (k + 1) x0 x1 x2 x7 n true = (if n = (wrap64 ((x7.size : Int) - 1)) then (if 0 ≤ (wrap64 ((x7.size : Int) - 1)) then (if (wrap64 ((x7.size : Int) - 1)) < (x7.size : Int) then (if (bt x7 (wrap64 ((x7.size : Int) - 1))) = 58 then (grommetlaw06_PlainAhead.j2 k x0 x1 x2) else (some false)) else (none)) else (none)) else (some false)) := by
  rw [grommetlaw06_PlainAhead.j1, if_pos rfl]
theorem ahead_j2 (k : Nat) (x0 x1 : ByteArray) (x2 : Bool) : grommetlaw06_PlainAhead.j2 (k + 1) x0 x1 x2 = ((plain_Is.f k x1 x2).bind fun t211 => (if t211 = true then (if x1.size + 2 ≤ 9223372036854775807 then (if (x1 ++ (⟨#[58, 32]⟩ : ByteArray)).size + x0.size ≤ 9223372036854775807 then ((plain_Cut.f ((x1 ++ (⟨#[58, 32]⟩ : ByteArray)) ++ x0) x2).bind fun bt212 => (if bt212.1.toList = x1.toList then (if bt212.2 = (x1.size : Int) then ((grommetlaw06_alive.f k).bind fun t214 => (some t214)) else (some false)) else (some false))) else (none)) else (none)) else ((grommetlaw06_alive.f k).bind fun t215 => (some t215)))) := by
  rw [grommetlaw06_PlainAhead.j2]

theorem list_sum (a b c : ByteArray) : (a ++ b ++ c).data.toList = a.data.toList ++ b.data.toList ++ c.data.toList := by simp

theorem ahead_tail (k : Nat) (s t : ByteArray) (flow : Bool) (hb : s.size + t.size ≤ 1048576) : grommetlaw06_PlainAhead.j2 (k + 2 + 1) s t flow = some true := by
  have hL := size_list t
  have hS := size_list s
  have h0 : (t ++ (⟨#[58, 32]⟩ : ByteArray)).size = t.size + 2 := by rw [ByteArray.size_append]; rfl
  have h1 : (t ++ (⟨#[58, 32]⟩ : ByteArray) ++ s).size = t.size + 2 + s.size := by rw [ByteArray.size_append, h0]
  rw [ahead_j2, prog_Is k t flow (by omega), Option.bind_some, alive_eq]
  cases hi : isB t.data.toList flow with
  | false => rw [if_neg (by decide)]; rfl
  | true =>
    obtain ⟨e1, e2⟩ := cut_ahead t.data.toList s.data.toList flow hi
    have hl : (t ++ (⟨#[58, 32]⟩ : ByteArray) ++ s).data.toList = t.data.toList ++ [58, 32] ++ s.data.toList := list_sum _ _ _
    rw [if_pos rfl, if_pos (by omega), if_pos (by omega), prog_Cut _ _ (by omega), Option.bind_some, hl, e1, e2]
    simp only
    rw [if_pos, if_pos (by omega)]
    · rfl
    · rw [extract_mk, hl, Lib.toList_data, Lib.toList_data, toList_mk, List.append_assoc, List.take_left]

theorem PlainAhead (s t : ByteArray) (flow : Bool) (hs : s.size ≤ 140737488351232) (ht : t.size ≤ 140737488351232) (hb : s.size + t.size ≤ 1048576) : ∃ k, grommetlaw06_PlainAhead.f k s t flow = some true := by
  refine ⟨0 + 2 + 1 + 1 + 1, ?_⟩
  have hS := size_list s
  have he := endOf_le s.data.toList flow
  have hle := trimR_le s.data.toList (endOf s.data.toList flow)
  unfold grommetlaw06_PlainAhead.f
  rw [prog_Cut s flow hs, Option.bind_some]
  simp only
  have hag := cut_again s.data.toList flow _ rfl
  generalize hE : endOf s.data.toList flow = e at he hle hag
  generalize hC : trimR s.data.toList e = c at hle hag
  have hz : (s.extract 0 c).size = c := by rw [size_list, extract_mk, toList_mk, List.length_take]; omega
  have hl : (s.extract 0 c).data.toList = s.data.toList.take c := by rw [extract_mk]
  rw [if_neg (by omega), if_neg (by omega), if_pos (by omega), if_pos (by omega), Int.toNat_natCast, hz]
  rw [show ((s.extract 0 c).toList != (s.extract 0 c).toList) = false by simp, ahead_j0, prog_Cut _ flow (by omega), Option.bind_some]
  simp only
  rw [hl]
  rcases hag with ⟨a1, a2⟩ | ⟨a0, a1, a2⟩
  · rw [a1, a2]
    have hx : (s.extract 0 c).extract 0 c = s.extract 0 c := by rw [extract_mk (s.extract 0 c), hl, List.take_take, Nat.min_self, extract_mk]
    rw [hx, if_pos rfl, hz, show ((c : Int) != (c : Int)) = false by simp, ahead_j1f]
    exact ahead_tail 0 s t flow hb
  · rw [a1]
    have hw : wrap64 (((s.extract 0 c).size : Int) - 1) = ((c - 1 : Nat) : Int) := by rw [hz]; unfold wrap64; omega
    have hn : (((c - 1 : Nat) : Int) != ((s.extract 0 c).size : Int)) = true := by rw [hz]; simp; omega
    have hg : ∀ b : Bool, (if b = true then grommetlaw06_PlainAhead.j1 (0 + 2 + 1 + 1) s t flow (s.extract 0 c) ((c - 1 : Nat) : Int) true else grommetlaw06_PlainAhead.j1 (0 + 2 + 1 + 1) s t flow (s.extract 0 c) ((c - 1 : Nat) : Int) true) = grommetlaw06_PlainAhead.j1 (0 + 2 + 1 + 1) s t flow (s.extract 0 c) ((c - 1 : Nat) : Int) true := fun b => by cases b <;> rfl
    have hj : grommetlaw06_PlainAhead.j1 (0 + 2 + 1 + 1) s t flow (s.extract 0 c) ((c - 1 : Nat) : Int) true = some true := by
      rw [ahead_j1t, hw, if_pos rfl, if_pos (by omega), if_pos (by rw [hz]; omega), if_pos (by rw [bt_at_, hl, a2]; rfl)]
      exact ahead_tail 0 s t flow hb
    rw [hn, hj]
    split <;> rfl
end Go.Proofs.YtephdpgkildeoaaDoor.Pure
